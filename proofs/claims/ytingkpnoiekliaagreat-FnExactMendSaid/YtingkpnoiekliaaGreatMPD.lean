/- What the functions over disks answer, in plain lists: for the walks by hand. -/
import Derived.Test.YtingkpnoiekliaaGreatG4
import Derived.Test.YtingkpnoiekliaaGreatMZx13
import Derived.Test.YtingkpnoiekliaaGreatG6
import Derived.Test.YtingkpnoiekliaaGreatG8
import Derived.Test.YtingkpnoiekliaaGreatG9
import Derived.Test.YtingkpnoiekliaaGreatG10
import Derived.Test.YtingkpnoiekliaaGreatG12
import Derived.Test.YtingkpnoiekliaaGreatG13
import Derived.Test.YtingkpnoiekliaaGreatG14
import Derived.Sort.AssemblyPlain
set_option linter.unusedVariables false
set_option linter.unusedSimpArgs false
namespace Go.Proofs.YtingkpnoiekliaaGreat.MZ
open Go.RowKit Go.Proofs.YtingkpnoiekliaaGreatW.PrintWords Go.Proofs.YtingkpnoiekliaaGreatW.PrintLast Go.Proofs.YtingkpnoiekliaaGreatW.PrintMore
def cK (b:List Int):Prop:=∀i:Int,0≤rd b i∧rd b i≤255
theorem aeZ {b:List Int} (h:∀x ∈ b,(Lit.int .u8 x).wf=true):cK b:=by
 intro i;unfold rd;rw[List.getD_eq_getElem?_getD];cases e:b[i.toNat]? with
 |none=>simp
 |some x=>exact wf_u8 (h x (List.mem_of_getElem? e))
theorem cK.mem {b:List Int} (h:cK b):∀x ∈ b,0≤x∧x≤255:=by
 intro x hx;obtain⟨i,hi,rfl⟩:=List.mem_iff_getElem.1 hx;have:=h (i:Int);simpa[rd,List.getD_eq_getElem?_getD,List.getElem?_eq_getElem hi] using this
theorem cK.CB {b:List Int} (h:∀x ∈ b,0≤x∧x≤255):cK b:=by
 intro i;unfold rd;rw[List.getD_eq_getElem?_getD];cases e:b[i.toNat]? with
 |none=>simp
 |some x=>exact h x (List.mem_of_getElem? e)
theorem VR {b:List Int} {i:Nat} (h:i<b.length):b.drop i=rd b (i:Int)::b.drop (i+1):=by
 rw[List.drop_eq_getElem_cons h,R7,List.getD_eq_getElem?_getD,List.getElem?_eq_getElem h];rfl
theorem cK.set {l:List Int} (h:cK l) (i:Nat) (x:Int) (h0:0≤x) (h1:x≤255):cK (l.set i x):=by
 apply cK.CB;intro y hy
 rcases List.mem_or_eq_of_mem_set hy with hm|rfl
 ·exact h.mem y hm
 ·exact⟨h0,h1⟩
theorem cK.append {l m:List Int} (h:cK l) (h':cK m):cK (l++m):=by
 apply cK.CB;intro y hy
 rcases List.mem_append.1 hy with hm|hm
 ·exact h.mem y hm
 ·exact h'.mem y hm
theorem cK.nil:cK []:=cK.CB (by simp)
theorem agM {β γ:Type} (L:Nat→List β→Nat→Option γ) (n:Nat) (p:Nat→Bool) (h:Nat→β) (r:γ)
 (Cs:∀(i:Nat) (out:List β) (r:γ),i<n→out.length≤i→p i=true→Ev (fun k=>L k (out++[h i]) (i+1)) r→Ev (fun k=>L k out i) r)
 (eW:∀(i:Nat) (out:List β) (r:γ),i<n→out.length≤i→p i=false→Ev (fun k=>L k out (i+1)) r→Ev (fun k=>L k out i) r)
 (he:Ev (fun k=>L k (((List.range n).filter p).map h) n) r):Ev (fun k=>L k [] 0) r:=by
 have key:∀(d i:Nat),i+d=n→Ev (fun k=>L k (((List.range i).filter p).map h) i) r:=by
  intro d
  induction d with
  |zero=>
   intro i hi;have:i=n:=by omega
   subst this;exact he
  |succ d ih=>
   intro i hi;have hl:(((List.range i).filter p).map h).length≤i:=by rw[List.length_map];exact Nat.le_trans (List.length_filter_le _ _) (by simp)
   have hn:=ih (i+1) (by omega);rw[List.range_succ,List.filter_append,List.map_append]at hn;cases hp:p i
   ·refine eW i _ _ (by omega) hl hp ?_;simpa[hp] using hn
   ·refine Cs i _ _ (by omega) hl hp ?_;simpa[hp] using hn
 exact key n 0 (by omega)
theorem Small.spec {ds:List al} {ns ss:List aa} (h:Small ds ns ss) (nx:Int):Ev (fun k=>tz.f k ds ns ss nx) (bR ds ns ss nx):=ZY ds ns ss nx h.h0 h.hd h.h1 h.h2 h.z1 h.z2
theorem Small.impl {ds:List al} {ns ss:List aa} (h:Small ds ns ss) (nx:Int):Ev (fun k=>kD.f k ds ns ss nx) (bR ds ns ss nx):=YF ds ns ss nx h.h0 h.hd h.h1 h.h2 h.z1 h.z2
theorem Small.VM {ds:List al} {ns ss:List aa} (h:Small ds ns ss) (nx:Int):Ev (fun k=>dP.f k ds ns ss nx) (ds,ns,ss,nx):=Y0 ds ns ss nx h.h0 h.hd h.h1 h.h2
theorem Small.Jx {ds:List al} {ns ss:List aa} (h:Small ds ns ss) (nx:Int):Ev (fun k=>fi.f k ds ns ss nx) (ds,ns,ss,nx):=afI ds ns ss nx h.h0 h.hd h.h1 h.h2
theorem alf (mdo:Nat→List al→List aa→List aa→Int→Option dy) (d0:List al) (n0 s0:List aa) (x0:Int) (ds:List al) (ns ss:List aa) (nx:Int) (e0:List al) (h0:Small d0 n0 s0) (h:Small ds ns ss):Ev (fun k=>bZ.l1 mdo k [] ds (ds.length:Int) 0 d0 n0 s0 x0 e0 ns ss nx) (iT d0 n0 s0 x0 ds ns ss nx):=by
 refine agM (fun k out i=>bZ.l1 mdo k out ds (ds.length:Int) (i:Int) d0 n0 s0 x0 e0 ns ss nx) ds.length (fun (i:Nat)=>named ns (ai ds (i:Int)).f0 || named ss (ai ds (i:Int)).f0) (fun (i:Nat)=>ai ds (i:Int)) _ (fun i out r hi ho hp hh=>?_) (fun i out r hi ho hp hh=>?_) ?_
 ·obtain⟨K,e⟩:=EW ns h.h1 (ai ds (i:Int)).f0;obtain⟨K2,e2⟩:=EW ss h.h2 (ai ds (i:Int)).f0;dsimp only at e e2;have hb:=h.h0;refine Ev.round ⟨K+K2,fun k hk=>?_⟩ hh;simp only[bZ.l1];rw[if_pos (by omega),if_pos (by omega),if_pos (by omega),e k (by omega),Option.bind_some];cases hq:named ns (ai ds (i:Int)).f0
  ·rw[hq,Bool.false_or]at hp;rw[if_neg (by decide),e2 k (by omega),Option.bind_some,hp,if_pos rfl,if_pos (by omega),fM (n:=ds.length) hi (by omega)]
  ·rw[if_pos rfl,if_pos (by omega),fM (n:=ds.length) hi (by omega)]
 ·obtain⟨K,e⟩:=EW ns h.h1 (ai ds (i:Int)).f0;obtain⟨K2,e2⟩:=EW ss h.h2 (ai ds (i:Int)).f0;dsimp only at e e2;rw[Bool.or_eq_false_iff]at hp;have hb:=h.h0;refine Ev.round ⟨K+K2,fun k hk=>?_⟩ hh;simp only[bZ.l1];rw[if_pos (by omega),if_pos (by omega),if_pos (by omega),e k (by omega),Option.bind_some,hp.1,if_neg (by decide),e2 k (by omega),Option.bind_some,hp.2,if_neg (by decide),fM (n:=ds.length) hi (by omega)]
 ·refine Ev.step (f:=fun k=>(kD.f k (kept ds ns ss) ns ss nx).bind fun t=>(if t=true then (some (kept ds ns ss,ns,ss,nx,0)) else ((fi.f k d0 n0 s0 x0).bind fun bt=>(some (bt.1,bt.2.1,bt.2.2.1,bt.2.2.2,4))))) (fun k=>?_) ?_
  ·simp only[bZ.l1];rw[if_neg (by omega)];rfl
  ·refine Ev.bind' (h.kept.impl nx) ?_;unfold iT;cases bR (kept ds ns ss) ns ss nx
   ·simp only[Bool.false_eq_true,if_false];exact Ev.bind' (h0.Jx x0) (Ev.now _)
   ·simp only[if_true];exact Ev.now _
theorem am5 (d0:List al) (n0 s0:List aa) (x0:Int) (ds:List al) (ns ss:List aa) (nx:Int) (h0:Small d0 n0 s0) (h:Small ds ns ss):Ev (fun k=>sK.f k d0 n0 s0 x0 ds ns ss nx) (iT d0 n0 s0 x0 ds ns ss nx):=⟨0,fun k _=>if_pos ⟨xr.2 h0,xr.2 h⟩⟩
def nameAt (l:List aa) (nm:ByteArray):Int:=eT (fun i=>decide ((aG l (i:Int)).f0.toList=nm.toList)) (fun i=>(i:Int)) (-1) 0 l.length
def du (l:List aa) (nm:ByteArray):Int:=eT (fun i=>decide ((aG l (i:Int)).f0.toList=nm.toList)) (fun i=>(aG l (i:Int)).f1) 0 0 l.length
theorem zp (ds:List al) (l c:List aa) (n:Int) (nm:ByteArray) (h:l.length≤1048576):Ev (fun k=>eX.f k ds l c n nm) (du l nm):=by
 refine Ev.congr (fun k=>?_) (vX (fun i k=>eX.U k nm l (l.length:Int) (i:Int)) l.length _ _ _ (fun i r hi hp h=>?_) (fun i hi hp=>?_) ?_)
 ·simp only[eX.f];rfl
 ·refine Ev.step (fun k=>?_) h;simp only[eX.U];rw[if_pos (by omega),if_pos (by omega),if_pos (by omega),if_neg (by simpa using hp),fM (n:=l.length) hi (by omega)]
 ·refine Ev.ends (fun k=>?_);simp only[eX.U];rw[if_pos (by omega),if_pos (by omega),if_pos (by omega),if_pos (by simpa using hp)]
 ·refine Ev.ends (fun k=>?_);simp only[eX.U];rw[if_neg (by omega)]
theorem Hy (l:List aa) (nm:ByteArray) (h:l.length≤1048576):Ev (fun k=>gJ.f k l nm) (nameAt l nm):=by
 refine Ev.congr (fun k=>?_) (vX (fun i k=>gJ.U k l nm (i:Int)) l.length _ _ _ (fun i r hi hp h=>?_) (fun i hi hp=>?_) ?_)
 ·simp only[gJ.f];rfl
 ·refine Ev.step (fun k=>?_) h;simp only[gJ.U];rw[if_pos (by omega),if_pos (by omega),if_neg (by simpa using hp),fM (n:=l.length) hi (by omega)]
 ·refine Ev.ends (fun k=>?_);simp only[gJ.U];rw[if_pos (by omega),if_pos (by omega),if_pos (by simpa using hp)]
 ·refine Ev.ends (fun k=>?_);simp only[gJ.U];rw[if_neg (by omega)]
theorem uN {ds:List al} {ns ss:List aa} {nx:Int} (h:bR ds ns ss nx=true) (nm:ByteArray) :
 (nameAt ns nm = -1∧du ns nm=0)∨(∃j m,j<ns.length∧nameAt ns nm=(j:Int)∧du ns nm=(aG ns (j:Int)).f1∧du ns nm≠0∧m<ds.length∧fo ds (aG ns (j:Int)).f1=(m:Int)∧fv nm=true):=by
 obtain⟨hi,h1,_⟩:=uq h;unfold nameAt du
 rcases yQ (fun i=>decide ((aG ns (i:Int)).f0.toList=nm.toList)) ns.length 0 with ⟨j,_,j2,j3,j4⟩|⟨_,j2⟩
 ·right;obtain⟨e1,e2⟩:=VT h1 j (by omega);obtain⟨m,m1,m2,m3⟩:=Ht e2;have hp:=(YO (wZ hi m m1)).1;refine⟨j,m,by omega,j4 _ _,j4 _ _,?_,m1,m2,?_⟩
  ·rw[j4,←m3];omega
  ·rw[←aal (of_decide_eq_true j3)];exact e1
 ·left;exact⟨j2 _ _,j2 _ _⟩
def df (ok:Bool) (ns:List aa) (nm:ByteArray):Int:=if (ok&&fv nm)=true then (if nameAt ns nm<0 then 2 else 0) else 1
theorem Q2 (ds:List al) (ns ss:List aa) (nx:Int) (nm:ByteArray) (hn:nm.size≤9223372036854775807) (h:Small ds ns ss):Ev (fun k=>fX.f k ds ns ss nx nm) (df (bR ds ns ss nx) ns nm):=by
 obtain⟨K1,e1⟩:=h.spec nx;obtain⟨K2,e2⟩:=Sg nm hn;obtain⟨K3,e3⟩:=Hy ns nm h.h1;dsimp only at e1 e2 e3;refine⟨K1+K2+K3+1,fun k hk=>?_⟩;obtain⟨q,rfl⟩:∃q,k=q+1:=⟨k-1,by omega⟩;simp only[fX.f];rw[e1 _ (by omega),Option.bind_some];unfold df;cases bR ds ns ss nx
 ·rw[if_neg (by decide),Bool.false_and,if_neg (by decide)];simp only[fX.j0];rfl
 rw[if_pos rfl,e2 _ (by omega),Option.bind_some,Bool.true_and];simp only[fX.j0];cases fv nm
 ·rfl
 ·rw[if_neg (by decide),if_pos rfl,e3 _ (by omega),Option.bind_some];split<;>rfl
abbrev Ui:=Nat→List al→List aa→List aa→Int→Option dy
def AJ (ds:List al) (ns ss:List aa) (nx:Int) (names:List ByteArray) (there:Bool) (R:dy):dy:=
 if (there&&du ns (jo ByteArray.empty names 0) == 0)=true then (ds,ns,ss,nx,2) else if R.2.2.2.2=0 then iT ds ns ss nx R.1 R.2.1 R.2.2.1 R.2.2.2.1 else (ds,ns,ss,nx,R.2.2.2.2)
def yJ (ds:List al) (ns ss:List aa) (nx:Int) (names:List ByteArray) (there:Bool) (R:dy):dy:=
 if bR ds ns ss nx=true then (if names.all fv=true then AJ ds ns ss nx names there R else (ds,ns,ss,nx,1)) else (ds,ns,ss,nx,1)
theorem YG (mdo:Ui) (ds:List al) (ns ss:List aa) (nx:Int) (R:dy) (h:Small ds ns ss) (hm:Ev (fun k=>mdo k ds ns ss nx) R∧(R.2.2.2.2=0→Small R.1 R.2.1 R.2.2.1)) :
 Ev (fun k=>bZ.j1 mdo k false ds ns ss nx ds ns ss nx) (if R.2.2.2.2=0 then iT ds ns ss nx R.1 R.2.1 R.2.2.1 R.2.2.2.1 else (ds,ns,ss,nx,R.2.2.2.2)):=by
 refine Ev.step (f:=fun k=>(mdo k ds ns ss nx).bind fun t=>(if t.2.2.2.2=0 then (bZ.l1 mdo k [] t.1 (t.1.length:Int) 0 ds ns ss nx t.1 t.2.1 t.2.2.1 t.2.2.2.1) else ((fi.f k ds ns ss nx).bind fun b=>(some (b.1,b.2.1,b.2.2.1,b.2.2.2,t.2.2.2.2))))) (fun k=>?_) (Ev.bind' hm.1 ?_)
 ·simp only[bZ.j1,Bool.false_eq_true,if_false]
 ·by_cases hc:R.2.2.2.2=0
  ·simp only[hc,if_true];exact alf mdo ds ns ss nx R.1 R.2.1 R.2.2.1 R.2.2.2.1 R.1 h (hm.2 hc)
  ·simp only[hc,if_false];exact Ev.bind' (h.Jx nx) (Ev.now _)
theorem Cu (mdo:Ui) (ds:List al) (ns ss:List aa) (nx:Int) (names:List ByteArray) (there:Bool) (R:dy) (h:Small ds ns ss) (hl:names.length≤2) (hz:∀nm ∈ names,nm.size≤9223372036854775807) (hth:there=true→0<names.length)
 (hm:bR ds ns ss nx=true→names.all fv=true→(there=true→du ns (jo ByteArray.empty names 0)≠0)→Ev (fun k=>mdo k ds ns ss nx) R∧(R.2.2.2.2=0→Small R.1 R.2.1 R.2.2.1)):Ev (fun k=>bZ.f mdo k ds ns ss nx names there) (yJ ds ns ss nx names there R):=by
 unfold bZ.f yJ;refine Ev.bind' (h.Jx nx) ?_;refine Ev.bind' (h.impl nx) ?_;cases hok:bR ds ns ss nx
 ·simp only[Bool.false_eq_true,if_false];exact Ev.now _
 simp only[if_true]
 have key:∀(d i:Nat),i+d=names.length→((names.drop i).all fv=true→names.all fv=true)→Ev (fun k=>bZ.U mdo k names there names (names.length:Int) (i:Int) ds ns ss nx ds ns ss nx) (if (names.drop i).all fv=true then AJ ds ns ss nx names there R else (ds,ns,ss,nx,1)):=by
  intro d
  induction d with
  |zero=>
   intro i hi hall;have e:names.drop i=[]:=List.drop_eq_nil_of_le (by omega);rw[e]at hall ⊢;have hall:=hall rfl;rw[if_pos (show ([]:List ByteArray).all fv=true from rfl)];unfold AJ;cases there with
   |false=>
    rw[Bool.false_and,if_neg (by decide)];refine Ev.step (f:=fun k=>bZ.j1 mdo k false ds ns ss nx ds ns ss nx) (fun k=>?_) (YG mdo ds ns ss nx R h (hm hok hall (fun h=>by simp at h)));simp only[bZ.U];rw[if_neg (by omega),if_neg (by decide)]
   |true=>
    rw[Bool.true_and];obtain⟨K,e1⟩:=zp ds ns ss nx (jo ByteArray.empty names 0) h.h1;have hpos:=hth rfl;dsimp only at e1;refine Ev.round (f:=fun k=>bZ.j1 mdo k (du ns (jo ByteArray.empty names 0) == 0) ds ns ss nx ds ns ss nx) ⟨K,fun k hk=>?_⟩ ?_
    ·simp only[bZ.U];rw[if_neg (by omega),if_pos trivial,if_pos (by omega),e1 k hk,Option.bind_some]
    ·by_cases hc:du ns (jo ByteArray.empty names 0)=0
     ·rw[hc];refine Ev.ends (fun k=>?_);simp only[bZ.j1];rfl
     ·rw[beq_eq_false_iff_ne.2 hc,if_neg (by decide)];exact YG mdo ds ns ss nx R h (hm hok hall (fun _=>hc))
  |succ d ih=>
   intro i hi hall;have hil:i<names.length:=by omega
   have ed:names.drop i=names[i]::names.drop (i+1):=List.drop_eq_getElem_cons hil
   have er:jo ByteArray.empty names (i:Int)=names[i]:=by
    show names.getD i ByteArray.empty=_;rw[List.getD_eq_getElem?_getD,List.getElem?_eq_getElem hil];rfl
   obtain⟨K1,e1⟩:=YI names[i] (hz _ (List.getElem_mem hil));dsimp only at e1;rw[ed,List.all_cons]at hall ⊢;cases hno:fv names[i] with
   |false=>
    rw[Bool.false_and,if_neg (by decide)];refine Ev.round (f:=fun k=>some (ds,ns,ss,nx,1)) ⟨K1,fun k hk=>?_⟩ (Ev.now _);simp only[bZ.U];rw[if_pos (by omega),if_pos (by omega),if_pos (by omega),er,e1 k hk,Option.bind_some,hno,if_neg (by decide)]
   |true=>
    rw[hno,Bool.true_and]at hall;rw[Bool.true_and];refine Ev.round (f:=fun k=>bZ.U mdo k names there names (names.length:Int) ((i+1:Nat):Int) ds ns ss nx ds ns ss nx) ⟨K1,fun k hk=>?_⟩ (ih (i+1) (by omega) hall);simp only[bZ.U];rw[if_pos (by omega),if_pos (by omega),if_pos (by omega),er,e1 k hk,Option.bind_some,hno,if_pos rfl,fM (n:=names.length) hil (by omega)]
 have:=key names.length 0 (by omega) (fun h=>h);rw[List.drop_zero]at this;exact this
theorem OA (ds:List al) (ns ss:List aa) (nx:Int) (nm:ByteArray) (R:dy):yJ ds ns ss nx [nm] true R=if df (bR ds ns ss nx) ns nm=0 then (if R.2.2.2.2=0 then iT ds ns ss nx R.1 R.2.1 R.2.2.1 R.2.2.2.1 else (ds,ns,ss,nx,R.2.2.2.2)) else (ds,ns,ss,nx,df (bR ds ns ss nx) ns nm):=by
 unfold yJ AJ df;have e0:jo ByteArray.empty [nm] 0=nm:=rfl;rw[e0,List.all_cons,List.all_nil,Bool.and_true,Bool.true_and];cases hok:bR ds ns ss nx
 ·simp
 ·rw[Bool.true_and,if_pos rfl];cases hno:fv nm
  ·simp
  ·rw[if_pos rfl,if_pos rfl]
   rcases uN hok nm with ⟨c1,c2⟩|⟨j,m,c1,c2,c3,c4,_⟩
   ·rw[c2,if_pos (by decide),if_pos (show nameAt ns nm<0 by omega),if_neg (by decide)]
   ·rw[beq_eq_false_iff_ne.2 c4,if_neg (by decide),if_neg (show ¬nameAt ns nm<0 by omega),if_pos rfl]
theorem Oz {ds:List al} {ns ss:List aa} {nx:Int} {nm:ByteArray} (hok:bR ds ns ss nx=true) (hid:du ns nm≠0):∃j m,j<ns.length∧nameAt ns nm=(j:Int)∧du ns nm=(aG ns (j:Int)).f1∧m<ds.length∧fo ds (du ns nm)=(m:Int):=by
 rcases uN hok nm with ⟨c1,c2⟩|⟨j,m,c1,c2,c3,c4,c5,c6,_⟩
 ·exact absurd c2 hid
 ·exact⟨j,m,c1,c2,c3,c5,by rw[c3];exact c6⟩
def fw (ns:List aa) (nm:ByteArray):List aa:=((List.range ns.length).filter (fun (i:Nat)=>!decide ((aG ns (i:Int)).f0.toList=nm.toList))).map (fun (i:Nat)=>aG ns (i:Int))
theorem xy (ns:List aa) (nm:ByteArray):(fw ns nm).length≤ns.length:=by
 unfold fw;rw[List.length_map];exact Nat.le_trans (List.length_filter_le _ _) (by simp)
theorem C5 {ns:List aa} {nm:ByteArray} {x:aa} (h:x ∈ fw ns nm):x ∈ ns:=by
 obtain⟨i,hi,rfl⟩:=List.mem_map.1 h;exact Lh (by simpa using (List.mem_filter.1 hi).1)
theorem Small.fw {ds:List al} {ns ss:List aa} (h:Small ds ns ss) (nm:ByteArray):Small ds (fw ns nm) ss:=⟨h.h0,h.hd,Nat.le_trans (xy ns nm) h.h1,h.h2,fun e he=>h.z1 e (C5 he),h.z2⟩
theorem ana (ns:List aa) (nm:ByteArray) (h:ns.length≤1048576):Ev (fun k=>lI.f k ns nm) (fw ns nm):=by
 refine Ev.congr (fun k=>?_) (JG (fun k out i=>lI.U k ns nm out (i:Int)) ns.length _ _ (fun out=>out) (fun i out r hi ho hp h=>?_) (fun i out r hi ho hp h=>?_) (fun out ho=>?_))
 ·simp only[lI.f];rfl
 ·refine Ev.step (fun k=>?_) h;simp only[lI.U];rw[if_pos (by omega),if_pos (by omega),if_neg (by simpa using hp),if_pos (by omega),fM (n:=ns.length) hi (by omega)]
 ·refine Ev.step (fun k=>?_) h;simp only[lI.U];rw[if_pos (by omega),if_pos (by omega),if_pos (by simpa using hp),fM (n:=ns.length) hi (by omega)]
 ·refine Ev.ends (fun k=>?_);simp only[lI.U];rw[if_neg (by omega)]
theorem N6:∀a b:List UInt8,(Op.bytesLess a b || a == b) = !(Op.bytesLess b a)
 |[],[]=>rfl
 |[],_::_=>rfl
 |_::_,[]=>rfl
 |a::x,b::y=>by
  have ih:=N6 x y;simp only[Op.bytesLess];by_cases h1:a<b
  ·have h2:¬b<a:=fun h=>by simp only[UInt8.lt_iff_toNat_lt]at h1 h;omega
   have h3:¬(b=a):=fun h=>by subst h;simp only[UInt8.lt_iff_toNat_lt]at h1;omega
   simp[h1,h2,h3]
  ·by_cases h2:b<a
   ·have h3:¬(a=b):=fun h=>by subst h;simp only[UInt8.lt_iff_toNat_lt]at h2;omega
    simp[h1,h2,h3]
   ·have h3:a=b:=by
     apply UInt8.toNat_inj.1;simp only[UInt8.lt_iff_toNat_lt]at h1 h2;omega
    subst h3;simpa using ih
theorem Vi (a:List UInt8):Op.bytesLess a a=false:=by
 have h:=N6 a a;simp at h;cases hq:Op.bytesLess a a with
 |false=>rfl
 |true=>rw[hq]at h;simp at h
theorem Ec {a b:List UInt8} (h:Op.bytesLess a b=true):a≠b:=fun e=>by subst e;rw[Vi]at h;simp at h
theorem Vj {a b:List UInt8} (h:Op.bytesLess a b=false) (hne:a≠b):Op.bytesLess b a=true:=by
 have t:=N6 a b;rw[h,beq_eq_false_iff_ne.2 hne]at t;simpa using t.symm
theorem Ed:∀ {a b c:List UInt8},Op.bytesLess a b=true→Op.bytesLess b c=true→Op.bytesLess a c=true
 |_,_,[],_,h2=>by rename_i a b _;cases b<;>simp[Op.bytesLess]at h2
 |[],_,_::_,_,_=>rfl
 |a::x,[],c::z,h1,_=>by simp[Op.bytesLess]at h1
 |a::x,b::y,c::z,h1,h2=>by
  have ih:=@Ed x y z;simp only[Op.bytesLess]at h1 h2 ⊢;by_cases h3:a<b
  ·by_cases h4:b<c
   ·have:a<c:=by simp only[UInt8.lt_iff_toNat_lt] at *;omega
    simp[this]
   ·by_cases h5:b=c
    ·subst h5;simp[h3]
    ·simp[h4,h5]at h2
  ·by_cases h5:a=b
   ·subst h5;by_cases h4:a<c
    ·simp[h4]
    ·by_cases h6:a=c
     ·subst h6;simp[h3]at h1 h2 ⊢;exact ih h1 h2
     ·simp[h4,h6]at h2
   ·simp[h3,h5]at h1
abbrev sy (a b:aa):Prop:=bo.lt a b=true
theorem amq (xs:List aa):(bo.sort xs).Perm xs∧(bo.sort xs).Pairwise (fun a b=>bo.lt b a=false):=by
 unfold bo.sort;split
 ·obtain⟨⟨hsz,_,hp⟩,hs⟩:=Go.Sort.pdq_sorts bo.lt bo.swo xs.toArray 0 xs.toArray.size (Go.Lib.bitLen xs.toArray.size) true true (Nat.zero_le _) (Nat.le_refl _) (Or.inl rfl);generalize Go.Sort.pdq bo.lt xs.toArray 0 xs.toArray.size (Go.Lib.bitLen xs.toArray.size) true true=d' at hsz hp hs
  have e1:d'.extract 0 xs.toArray.size=d':=by rw[←hsz];exact Array.extract_size
  rw[e1,Array.extract_size]at hp;refine⟨hp,?_⟩;rw[List.pairwise_iff_getElem];intro i j hi hj hij;have hi':i<d'.size:=by simpa using hi
  have hj':j<d'.size:=by simpa using hj
  have:=hs i j (Nat.zero_le _) hij (by omega);rw[getElem!_pos d' j hj',getElem!_pos d' i hi']at this;simpa using this
 ·rename_i h;refine⟨List.Perm.refl _,?_⟩
  match xs,h with
  |[],_=>exact List.Pairwise.nil
  |[a],_=>exact List.pairwise_singleton _ _
  |a::b::r,h=>exact absurd (by simp) h
def iX (e:aa):List aa→List aa
 |[]=>[e]
 |x::r=>if bo.lt x e=true then x::iX e r else e::x::r
theorem KM (e:aa):∀l,(iX e l).Perm (l++[e])
 |[]=>List.Perm.refl _
 |x::r=>by
  unfold iX;split
  ·exact(KM e r).cons x
  ·exact(List.perm_append_singleton e (x::r)).symm
theorem Hu {e y:aa} {l:List aa} (h:y ∈ iX e l):y=e∨y ∈ l:=by
 have:=(KM e l).mem_iff.1 h;rw[List.mem_append,List.mem_singleton]at this;exact this.symm
theorem YQ (e:aa) (l:List aa):(iX e l).length=l.length+1:=by rw[(KM e l).length_eq];simp
theorem YR (e:aa):∀l,l.Pairwise sy→(∀x ∈ l,x.f0.toList≠e.f0.toList)→(iX e l).Pairwise sy
 |[],_,_=>List.pairwise_singleton _ _
 |x::r,h,hne=>by
  obtain⟨h1,h2⟩:=List.pairwise_cons.1 h;unfold iX;split
  ·rename_i hx;refine List.pairwise_cons.2 ⟨fun y hy=>?_,YR e r h2 (fun y hy=>hne y (List.mem_cons_of_mem _ hy))⟩
   rcases Hu hy with rfl|hy
   ·exact hx
   ·exact h1 y hy
  ·rename_i hx;have hex:bo.lt e x=true:=Vj (show Op.bytesLess x.f0.toList e.f0.toList=false from Bool.eq_false_iff.2 hx) (hne x List.mem_cons_self);refine List.pairwise_cons.2 ⟨fun y hy=>?_,h⟩
   rcases List.mem_cons.1 hy with rfl|hy
   ·exact hex
   ·exact Ed hex (h1 y hy)
theorem Zy (l:List aa) (e:aa) (h:l.Pairwise sy) (hne:∀x ∈ l,x.f0.toList≠e.f0.toList):bo.sort (l++[e])=iX e l:=by
 obtain⟨hp,hs⟩:=amq (l++[e]);have hi:=YR e l h hne;have KC:(iX e l).Pairwise (fun a b=>a.f0.toList≠b.f0.toList):=hi.imp (fun h=>Ec h);have hpp:=hp.trans (KM e l).symm;have akM:(bo.sort (l++[e])).Pairwise (fun a b=>a.f0.toList≠b.f0.toList):=(hpp.pairwise_iff (fun h=>h.symm)).2 KC;have QK:(bo.sort (l++[e])).Pairwise sy:=(hs.and akM).imp (fun h=>Vj h.1 (fun e=>h.2 e.symm));refine List.Perm.eq_of_pairwise (le:=sy) (fun a b _ _ h1 h2=>?_) QK hi hpp;have:=Ed h1 h2;rw[Vi]at this;exact absurd this (by decide)
theorem VU {ds:List al} {l:List aa} (h:gZ ds l=true) (i:Nat) (hi:i<l.length) (h0:0<i):Op.bytesLess (aG l ((i-1:Nat):Int)).f0.toList (aG l (i:Int)).f0.toList=true:=by
 unfold gZ at h;rw[yP,Bool.and_eq_true]at h;have hb:=EJ _ _ (by simpa using h.1) i (by omega) (by omega);unfold na at hb;rw[Bool.or_eq_false_iff,Bool.or_eq_false_iff]at hb;have h2:=hb.1.2;simpa[h0] using h2
theorem JD {ds:List al} {l:List aa} (h:gZ ds l=true):l.Pairwise sy:=by
 have key:∀(d i:Nat),i+d+1<l.length→Op.bytesLess (aG l (i:Int)).f0.toList (aG l ((i+d+1:Nat):Int)).f0.toList=true:=by
  intro d
  induction d with
  |zero=>intro i hi;exact VU h (i+1) hi (by omega)
  |succ d ih=>intro i hi;exact Ed (ih i (by omega)) (VU h (i+(d+1)+1) hi (by omega))
 rw[List.pairwise_iff_getElem];intro i j hi hj hij;have:=key (j-i-1) i (by omega);rw[show i+(j-i-1)+1=j from by omega]at this;have e1:aG l (i:Int)=l[i]:=by unfold aG;simp[List.getD_eq_getElem?_getD,hi]
 have e2:aG l (j:Int)=l[j]:=by unfold aG;simp[List.getD_eq_getElem?_getD,hj]
 rw[e1,e2]at this;exact this
theorem Zi {l:List aa} {nm:ByteArray} (h:nameAt l nm<0):∀x ∈ l,x.f0.toList≠nm.toList:=by
 unfold nameAt at h
 rcases yQ (fun i=>decide ((aG l (i:Int)).f0.toList=nm.toList)) l.length 0 with ⟨j,_,_,_,j4⟩|⟨j1,_⟩
 ·rw[j4]at h;omega
 ·intro x hx;obtain⟨i,hi,rfl⟩:=List.getElem_of_mem hx;have:=j1 i (by omega) (by omega);have e1:aG l (i:Int)=l[i]:=by unfold aG;simp[List.getD_eq_getElem?_getD,hi]
  rw[e1]at this;exact of_decide_eq_false this
def la (e x:aa):Bool:=!decide (x.f0.toList=e.f0.toList)
def C4 (e:aa):List aa→List aa
 |[]=>[e]
 |x::r=>if bo.lt x e=true then x::C4 e r else e::(x::r).filter (la e)
theorem alA (e:aa) (l:List aa) (h:∀y ∈ l,bo.lt y e=false):iX e l=e::l:=by
 cases l with
 |nil=>rfl
 |cons x r=>
  unfold iX;rw[if_neg (by rw[h x List.mem_cons_self];decide)]
theorem aaB (e:aa):∀l,l.Pairwise sy→C4 e l=iX e (l.filter (la e))
 |[],_=>rfl
 |x::r,h=>by
  obtain⟨h1,h2⟩:=List.pairwise_cons.1 h;unfold C4;by_cases hx:bo.lt x e=true
  ·rw[if_pos hx,aaB e r h2,List.filter_cons,if_pos (show la e x=true by unfold la;simpa using Ec hx)]
   conv=>rhs;unfold iX
   rw[if_pos hx]
  ·rw[if_neg hx,alA];intro y hy
   rcases List.mem_cons.1 (List.mem_filter.1 hy).1 with rfl|hr
   ·exact Bool.eq_false_iff.2 hx
   ·refine Bool.eq_false_iff.2 (fun hye=>hx ?_);exact Ed (h1 y hr) hye
theorem alR (l:List aa) (nm:ByteArray) (n:Int) (hl:l.length≤1048576):∀(d i:Nat) (out:List aa) (b:Bool),i+d=l.length→out.length≤i+(if b=true then 1 else 0) →
 Ev (fun k=>dw.U k l out b (i:Int) nm n) (out++(if b=true then (l.drop i).filter (la ⟨nm,n⟩) else C4 (⟨nm,n⟩:aa) (l.drop i))):=by
 intro d
 induction d with
 |zero=>
  intro i out b hi ho;rw[List.drop_eq_nil_of_le (by omega)];refine Ev.ends (fun k=>?_);simp only[dw.U];rw[if_neg (by omega)];cases b
  ·rw[if_neg (by decide),if_pos (by simp at ho;omega),if_neg (by decide)];rfl
  ·simp
 |succ d ih=>
  intro i out b hi ho;have hil:i<l.length:=by omega
  have ed:l.drop i=l[i]::l.drop (i+1):=List.drop_eq_getElem_cons hil;have er:aG l (i:Int)=l[i]:=by unfold aG;simp[List.getD_eq_getElem?_getD,hil]
  have tk:∀(k:Nat) (o:List aa) (c:Bool),o.length≤i+2→dw.j2 (k+1) l o c (i:Int) nm n=dw.U k l (o++[l[i]].filter (la ⟨nm,n⟩)) c ((i+1:Nat):Int) nm n:=by
   intro k o c cQ;simp only[dw.j2];rw[if_pos (by omega),if_pos (by omega),er,fM (n:=l.length) hil (by omega)];by_cases hn:l[i].f0.toList=nm.toList
   ·rw[if_pos hn,List.filter_cons,if_neg (show ¬la ⟨nm,n⟩ l[i]=true by unfold la;simpa using hn)];simp
   ·rw[if_neg hn,if_pos (by omega),List.filter_cons,if_pos (show la ⟨nm,n⟩ l[i]=true by unfold la;simpa using hn)];simp
  have hf:∀(o:List aa),(o++[l[i]].filter (la ⟨nm,n⟩)).length≤o.length+1:=by
   intro o;rw[List.length_append];have:=List.length_filter_le (la ⟨nm,n⟩) [l[i]];simp at this ⊢;omega
  have ef:(l[i]::l.drop (i+1)).filter (la ⟨nm,n⟩)=[l[i]].filter (la ⟨nm,n⟩)++(l.drop (i+1)).filter (la ⟨nm,n⟩):=by rw[←List.filter_append];rfl
  cases b
  ·cases hc:bo.lt l[i] (⟨nm,n⟩:aa)
   ·
     obtain⟨K,h1⟩:=ih (i+1) (out++[(⟨nm,n⟩:aa)]++[l[i]].filter (la ⟨nm,n⟩)) true (by omega) (by have:=hf (out++[(⟨nm,n⟩:aa)]);simp at ho this ⊢;omega);refine⟨K+3,fun k hk=>?_⟩;obtain⟨q,rfl⟩:∃q,k=q+3:=⟨k-3,by omega⟩;have ky:Op.bytesLess l[i].f0.toList nm.toList=false:=hc;have h2:=h1 q (by omega);simp only[dw.U,dw.j1];rw[if_pos (by omega),if_neg (by decide),if_pos (by omega),er,ky,if_pos (by decide),if_pos (by simp at ho;omega),tk q _ _ (by simp at ho ⊢;omega)];refine h2.trans ?_;rw[ed,if_pos rfl,if_neg (by decide)];unfold C4;rw[if_neg (by rw[hc];decide),ef];simp
   ·obtain⟨K,h1⟩:=ih (i+1) (out++[l[i]]) false (by omega) (by simp at ho ⊢;omega);refine⟨K+3,fun k hk=>?_⟩;obtain⟨q,rfl⟩:∃q,k=q+3:=⟨k-3,by omega⟩;have ky:Op.bytesLess l[i].f0.toList nm.toList=true:=hc;have h2:=h1 q (by omega);have e1:[l[i]].filter (la ⟨nm,n⟩)=[l[i]]:=by rw[List.filter_cons,if_pos (show la ⟨nm,n⟩ l[i]=true by unfold la;simpa using Ec ky)];rfl
    simp only[dw.U,dw.j1];rw[if_pos (by omega),if_neg (by decide),if_pos (by omega),er,ky,if_neg (by decide),tk q _ _ (by simp at ho ⊢;omega),e1];refine h2.trans ?_;rw[ed,if_neg (by decide),if_neg (by decide)]
    conv=>rhs;unfold C4
    rw[if_pos hc];simp
  ·obtain⟨K,h1⟩:=ih (i+1) (out++[l[i]].filter (la ⟨nm,n⟩)) true (by omega) (by have:=hf out;simp at ho this ⊢;omega);refine⟨K+3,fun k hk=>?_⟩;obtain⟨q,rfl⟩:∃q,k=q+3:=⟨k-3,by omega⟩;have h2:=h1 q (by omega);simp only[dw.U,dw.j1];rw[if_pos (by omega),if_pos trivial,if_neg (by decide),tk q _ _ (by simp at ho ⊢;omega)];refine h2.trans ?_;rw[if_pos rfl,if_pos trivial,ed,ef,List.append_assoc]
theorem LJ (ns:List aa) (nm:ByteArray):fw ns nm=ns.filter (fun x=>!decide (x.f0.toList=nm.toList)):=by
 have hm:ns=(List.range ns.length).map (fun (i:Nat)=>aG ns (i:Int)):=by
  refine List.ext_getElem (by simp) (fun i h1 h2=>?_);rw[List.getElem_map,List.getElem_range];unfold aG;simp[List.getD_eq_getElem?_getD,h1]
 conv=>rhs;rw[hm,List.filter_map]
 unfold fw;rfl
theorem alQ (l:List aa) (nm:ByteArray) (n:Int) (hl:l.length≤1048576) (hr:l.Pairwise sy):Ev (fun k=>dw.f k l nm n) (iX (⟨nm,n⟩:aa) (fw l nm)):=by
 refine Ev.congr (fun k=>?_) (show Ev _ _ from (by have:=alR l nm n hl l.length 0 [] false (by omega) (by simp);rw[List.drop_zero,if_neg (by decide),aaB _ _ hr]at this;rw[LJ];exact this));simp only[dw.f];rfl
theorem alT (l:List aa) (nm:ByteArray) (n:Int) (hl:l.length≤1048576) (hne:∀x ∈ l,x.f0.toList≠nm.toList):∀(d i:Nat) (out:List aa) (b:Bool),i+d=l.length→out.length≤i+(if b=true then 1 else 0) →
 Ev (fun k=>dw.U k l out b (i:Int) nm n) (out++(if b=true then l.drop i else iX (⟨nm,n⟩:aa) (l.drop i))):=by
 intro d
 induction d with
 |zero=>
  intro i out b hi ho;rw[List.drop_eq_nil_of_le (by omega)];refine Ev.ends (fun k=>?_);simp only[dw.U];rw[if_neg (by omega)];cases b
  ·rw[if_neg (by decide),if_pos (by simp at ho;omega),if_neg (by decide)];rfl
  ·simp
 |succ d ih=>
  intro i out b hi ho;have hil:i<l.length:=by omega
  have ed:l.drop i=l[i]::l.drop (i+1):=List.drop_eq_getElem_cons hil;have er:aG l (i:Int)=l[i]:=by unfold aG;simp[List.getD_eq_getElem?_getD,hil]
  have hn:=hne l[i] (List.getElem_mem hil)
  have tk:∀(k:Nat) (o:List aa) (c:Bool),o.length≤i+2→dw.j2 (k+1) l o c (i:Int) nm n=dw.U k l (o++[l[i]]) c ((i+1:Nat):Int) nm n:=by
   intro k o c cQ;simp only[dw.j2];rw[if_pos (by omega),if_pos (by omega),er,if_neg hn,if_pos (by omega),fM (n:=l.length) hil (by omega)]
  cases b
  ·cases hc:bo.lt l[i] (⟨nm,n⟩:aa)
   ·
     obtain⟨K,h1⟩:=ih (i+1) (out++[(⟨nm,n⟩:aa)]++[l[i]]) true (by omega) (by simp at ho ⊢;omega);refine⟨K+3,fun k hk=>?_⟩;obtain⟨q,rfl⟩:∃q,k=q+3:=⟨k-3,by omega⟩;have ky:Op.bytesLess l[i].f0.toList nm.toList=false:=hc;have h2:=h1 q (by omega);simp only[dw.U,dw.j1];rw[if_pos (by omega),if_neg (by decide),if_pos (by omega),er,ky,if_pos (by decide),if_pos (by simp at ho;omega),tk q _ _ (by simp at ho ⊢;omega)];refine h2.trans ?_;rw[ed,if_pos rfl,if_neg (by decide)];unfold iX;rw[if_neg (by rw[hc];decide)];simp
   ·obtain⟨K,h1⟩:=ih (i+1) (out++[l[i]]) false (by omega) (by simp at ho ⊢;omega);refine⟨K+3,fun k hk=>?_⟩;obtain⟨q,rfl⟩:∃q,k=q+3:=⟨k-3,by omega⟩;have ky:Op.bytesLess l[i].f0.toList nm.toList=true:=hc;have h2:=h1 q (by omega);simp only[dw.U,dw.j1];rw[if_pos (by omega),if_neg (by decide),if_pos (by omega),er,ky,if_neg (by decide),tk q _ _ (by simp at ho ⊢;omega)];refine h2.trans ?_;rw[ed,if_neg (by decide),if_neg (by decide)]
    conv=>rhs;unfold iX
    rw[if_pos hc];simp
  ·obtain⟨K,h1⟩:=ih (i+1) (out++[l[i]]) true (by omega) (by simp at ho ⊢;omega);refine⟨K+3,fun k hk=>?_⟩;obtain⟨q,rfl⟩:∃q,k=q+3:=⟨k-3,by omega⟩;have h2:=h1 q (by omega);simp only[dw.U,dw.j1];rw[if_pos (by omega),if_pos trivial,if_neg (by decide),tk q _ _ (by simp at ho ⊢;omega)];refine h2.trans ?_;rw[ed];simp
theorem alS (l:List aa) (nm:ByteArray) (n:Int) (hl:l.length≤1048576) (hne:∀x ∈ l,x.f0.toList≠nm.toList):Ev (fun k=>dw.f k l nm n) (iX (⟨nm,n⟩:aa) l):=by
 refine Ev.congr (fun k=>?_) (alT l nm n hl hne l.length 0 [] false (by omega) (by simp));simp only[dw.f];rfl
def pX (ds:List al) (ns ss:List aa) (nx:Int) (nm:ByteArray):dy:=
 if df (bR ds ns ss nx) ns nm=1 then (ds,ns,ss,nx,1) else if df (bR ds ns ss nx) ns nm=0 then (ds,ns,ss,nx,3) else iT ds ns ss nx (ds++[(⟨nx,[],0⟩:al)]) (iX (⟨nm,nx⟩:aa) ns) ss (wrap64 (nx+1))
theorem afv {ds:List al} {ns ss:List aa} {nx:Int} {nm:ByteArray} (h1:df (bR ds ns ss nx) ns nm≠1):bR ds ns ss nx=true∧fv nm=true:=by
 unfold df at h1;split at h1
 ·rename_i h;rw[Bool.and_eq_true]at h;exact h
 ·exact absurd rfl h1
theorem aft {ds:List al} {ns ss:List aa} {nx:Int} {nm:ByteArray} (h1:df (bR ds ns ss nx) ns nm≠1) (h0:df (bR ds ns ss nx) ns nm≠0):nameAt ns nm<0:=by
 unfold df at h1 h0;split at h1
 ·rename_i h;rw[if_pos h]at h0;split at h0
  ·assumption
  ·exact absurd rfl h0
 ·exact absurd rfl h1
theorem VO {ds:List al} {ns ss:List aa} {nx:Int} {nm:ByteArray} (h:Small ds ns ss) (hok:bR ds ns ss nx=true) (hn:nm.size≤9223372036854775807):Small (ds++[(⟨nx,[],0⟩:al)]) (iX (⟨nm,nx⟩:aa) ns) ss:=by
 obtain⟨p1,p2,p3⟩:=uq hok;have hf:=Ph p1 p2 p3;have hl:=JC p2;refine⟨by simp;omega,fun x hx=>?_,by rw[YQ];omega,h.h2,fun x hx=>?_,h.z2⟩
 ·rcases List.mem_append.1 hx with h1|h1
  ·exact h.hd x h1
  ·rw[List.mem_singleton.1 h1];exact Nat.zero_le _
 ·rcases Hu hx with h1|h1
  ·rw[h1];exact hn
  ·exact h.z1 x h1
theorem VN {ds:List al} {ns ss:List aa} {nx:Int} {nm:ByteArray} (hok:bR ds ns ss nx=true) {j m:Nat} (hm:m<ds.length) (hj:fo ds (aG ns (j:Int)).f1=(m:Int)) (hi:du ns nm=(aG ns (j:Int)).f1):0<du ns nm:=by
 obtain⟨m',m1,m2,m3⟩:=Ht (ds:=ds) (id:=(aG ns (j:Int)).f1) (by omega);have hp:=(YO (wZ (uq hok).1 m' m1)).1;rw[hi,←m3];omega
theorem ale (ds:List al) (ns ss:List aa) (nx:Int) (nm:ByteArray) (hn:nm.size≤9223372036854775807) (h:Small ds ns ss):Ev (fun k=>Hm.f k ds ns ss nx nm) (pX ds ns ss nx nm):=by
 unfold Hm.f;refine Ev.bind' (Cu (eM.f nm) ds ns ss nx [nm] false (if 0<du ns nm then (ds,ns,ss,nx,3) else (ds++[(⟨nx,[],0⟩:al)],iX (⟨nm,nx⟩:aa) ns,ss,wrap64 (nx+1),0)) h (by simp) (fun x hx=>by rw[List.mem_singleton.1 hx];exact hn) (fun h=>by simp at h) (fun hok hno _=>?_)) ?_
 ·unfold eM.f;refine⟨Ev.bind' (zp ds ns ss nx nm h.h1) ?_,?_⟩
  ·by_cases hid:0<du ns nm
   ·simp only[hid,if_true];exact Ev.now _
   ·simp only[hid,if_false]
    have ha:nameAt ns nm<0:=by
     rcases uN hok nm with ⟨c1,c2⟩|⟨j,m,c1,c2,c3,c4,c5,c6,_⟩
     ·omega
     ·exact absurd (VN hok c5 c6 c3) hid
    have g0:ns.length<5864062014805:=by have:=h.h1;omega
    have g1:ds.length<3518437208883:=by have:=h.h0;omega
    have ep:bo.f ns nm nx=some (iX (⟨nm,nx⟩:aa) ns):=by
     unfold bo.f;rw[if_pos g0,Zy ns _ (JD (uq hok).2.1) (Zi ha)]
    simp only[ep,Option.bind_some,g1,if_true];exact Ev.now _
  ·intro h0;by_cases hid:0<du ns nm
   ·rw[if_pos hid]at h0;exact absurd (show (3:Int)=0 from h0) (by decide)
   ·rw[if_neg hid];exact VO h hok hn
 ·unfold yJ AJ pX df;rw[Bool.false_and,List.all_cons,List.all_nil,Bool.and_true];cases hok:bR ds ns ss nx
  ·exact Ev.now _
  ·cases hno:fv nm
   ·exact Ev.now _
   ·rcases uN hok nm with ⟨c1,c2⟩|⟨j,m,c1,c2,c3,c4,c5,c6,_⟩
    ·have e1:¬(0<du ns nm):=by omega
     have e2:nameAt ns nm<0:=by omega
     simp only[e1,e2,if_true,if_false,Bool.true_and,Bool.false_eq_true];exact Ev.now _
    ·have e1:0<du ns nm:=VN hok c5 c6 c3;have e2:¬nameAt ns nm<0:=by omega
     simp only[e1,e2,if_true,if_false,Bool.true_and,Bool.false_eq_true];exact Ev.now _
def jF (ds:List al) (m:Nat):List al:=ds.set m (⟨(ai ds (m:Int)).f0,(ai ds (m:Int)).f1,((ai ds (m:Int)).f1.length:Int)⟩:al)
theorem AL (ds:List al) (m:Nat):(jF ds m).length=ds.length:=by simp[jF]
theorem H2 (ds:List al) (m i:Nat) (hi:i<ds.length):(ai (jF ds m) (i:Int)).f0=(ai ds (i:Int)).f0∧(ai (jF ds m) (i:Int)).f1=(ai ds (i:Int)).f1∧((ai (jF ds m) (i:Int)).f2=(ai ds (i:Int)).f2∨(ai (jF ds m) (i:Int)).f2=((ai ds (i:Int)).f1.length:Int)):=by
 have e:ai (jF ds m) (i:Int)=if m=i then (⟨(ai ds (m:Int)).f0,(ai ds (m:Int)).f1,((ai ds (m:Int)).f1.length:Int)⟩:al) else ai ds (i:Int):=by
  show (jF ds m).getD i gV=_;unfold jF;rw[List.getD_eq_getElem?_getD,List.getElem?_set];by_cases h:m=i
  ·subst h;rw[if_pos rfl,if_pos hi,if_pos rfl];rfl
  ·rw[if_neg h,if_neg h];show _=ds.getD i gV;rw[List.getD_eq_getElem?_getD]
 rw[e];by_cases h:m=i
 ·subst h;rw[if_pos rfl];exact⟨rfl,rfl,.inr rfl⟩
 ·rw[if_neg h];exact⟨rfl,rfl,.inl rfl⟩
theorem anu {ds:List al} {ns ss:List aa} (h:Small ds ns ss) (m:Nat):Small (jF ds m) ns ss:=by
 refine⟨by rw[AL];exact h.h0,fun x hx=>?_,h.h1,h.h2,h.z1,h.z2⟩;obtain⟨i,hi,rfl⟩:=List.getElem_of_mem hx;rw[AL]at hi;have e:=(H2 ds m i hi).2.1
 have e2:ai (jF ds m) (i:Int)=(jF ds m)[i]'(by rw[AL];exact hi):=by
  show (jF ds m).getD i gV=_;rw[List.getD_eq_getElem?_getD,List.getElem?_eq_getElem (by rw[AL];exact hi)];rfl
 rw[e2]at e;rw[e];exact h.hd _ (sI hi)
theorem ans (ds:List al) (m:Nat) (id:Int):fo (jF ds m) id=fo ds id:=by
 unfold fo;rw[AL];exact JH _ _ (fun j _ hj=>by rw[(H2 ds m j (by omega)).1])
theorem Z4 (ds:List al) (m:Nat):∀i,i≤ds.length→iZ (jF ds m) i=iZ ds i
 |0,_=>rfl
 |i+1,h=>by
  unfold iZ;rw[Z4 ds m i (by omega),(H2 ds m i (by omega)).2.1]
theorem Z3 (ds:List al) (m:Nat) (l:List aa):gZ (jF ds m) l=gZ ds l:=by
 unfold gZ;exact JH _ _ (fun j _ _=>by unfold na;rw[ans])
theorem anr (ds:List al) (m:Nat) (ns ss:List aa) (nx:Int) (h:oE ds ns ss nx=true):oE (jF ds m) ns ss nx=true:=by
 have key:∀j,j<ds.length→iW (jF ds m) ns ss nx j=false:=by
  intro j hj;have hb:=wZ h j hj;have eO:=hb;unfold iW at eO ⊢;rw[Bool.or_eq_false_iff,Bool.or_eq_false_iff,Bool.or_eq_false_iff]at eO ⊢;obtain⟨⟨⟨h1,h2⟩,h3⟩,h4⟩:=eO;obtain⟨e0,e1,e2⟩:=H2 ds m j hj;rw[e0,e1];refine⟨⟨⟨h1,?_⟩,?_⟩,h4⟩
  ·rcases e2 with e2|e2
   ·rw[e2];exact h2
   ·rw[e2];simp
  ·by_cases h0:0<j
   ·rw[(H2 ds m (j-1) (by omega)).1];exact h3
   ·simp[h0]
 unfold oE;rw[AL]
 rcases yQ (iW (jF ds m) ns ss nx) ds.length 0 with ⟨j,_,h2,h3,_⟩|⟨_,h2⟩
 ·rw[key j (by omega)]at h3;simp at h3
 ·rw[h2];rfl
theorem anq {ds:List al} {ns ss:List aa} {nx:Int} (h:bR ds ns ss nx=true) (m:Nat):bR (jF ds m) ns ss nx=true:=by
 unfold bR at h ⊢;rw[Bool.and_eq_true,Bool.and_eq_true,Bool.and_eq_true]at h ⊢;rw[AL,Z4 ds m ds.length (Nat.le_refl _),Z3,Z3];exact⟨h.1,anr ds m ns ss nx h.2.1,h.2.2⟩
theorem alK {ds:List al} {ns ss:List aa} {nx:Int} (h:bR ds ns ss nx=true):kept ds ns ss=ds:=by
 have hi:=(uq h).1;unfold kept;rw[List.filter_eq_self.2 (fun i hm=>?_),R5];have hb:=wZ hi i (by simpa using hm);unfold iW at hb;rw[Bool.or_eq_false_iff,Bool.and_eq_false_iff]at hb
 rcases hb.2 with h2|h2
 ·rw[Bool.not_eq_false']at h2;rw[h2,Bool.true_or]
 ·rw[Bool.not_eq_false']at h2;rw[h2,Bool.or_true]
def nZ (ds:List al) (ns ss:List aa) (nx:Int) (nm:ByteArray):dy:=if df (bR ds ns ss nx) ns nm=0 then (jF ds (fo ds (du ns nm)).toNat,ns,ss,nx,0) else (ds,ns,ss,nx,df (bR ds ns ss nx) ns nm)
theorem Ow {ds:List al} {ns ss:List aa} {nx:Int} {nm:ByteArray} (hc:df (bR ds ns ss nx) ns nm=0):bR ds ns ss nx=true∧fv nm=true∧∃j m,j<ns.length∧nameAt ns nm=(j:Int)∧du ns nm=(aG ns (j:Int)).f1∧du ns nm≠0∧m<ds.length∧fo ds (du ns nm)=(m:Int):=by
 unfold df at hc;cases hok:bR ds ns ss nx
 ·rw[hok]at hc;simp at hc
 rw[hok,Bool.true_and]at hc;cases hno:fv nm
 ·rw[hno]at hc;simp at hc
 rw[hno,if_pos rfl]at hc
 rcases uN hok nm with ⟨c1,_⟩|⟨j,m,c1,c2,c3,c4,c5,c6,_⟩
 ·rw[if_pos (by omega)]at hc;simp at hc
 ·exact⟨rfl,rfl,j,m,c1,c2,c3,c4,c5,by rw[c3];exact c6⟩
theorem am8 (ds:List al) (ns ss:List aa) (nx:Int) (nm:ByteArray) (hn:nm.size≤9223372036854775807) (h:Small ds ns ss):Ev (fun k=>j6.f k ds ns ss nx nm) (nZ ds ns ss nx nm):=by
 unfold j6.f nZ;refine Ev.bind' (h.VM nx) ?_;refine Ev.bind' (Q2 ds ns ss nx nm hn h) ?_;by_cases hc:df (bR ds ns ss nx) ns nm=0
 ·obtain⟨_,_,j,m,c1,c2,c3,c4,c5,c6⟩:=Ow hc;simp only[hc,if_true];refine Ev.bind' (Hy ns nm h.h1) ?_;have g1:(0≤nameAt ns nm)=True:=eq_true (by omega);have g2:(nameAt ns nm<(ns.length:Int))=True:=eq_true (by omega);simp only[g1,g2,if_true];refine Ev.bind' (KP ds ns ss nx h.h0 _) ?_;rw[c2,←c3,c6];have g3:(0≤(m:Int))=True:=eq_true (by omega);have g4:((m:Int)<(ds.length:Int))=True:=eq_true (by omega);simp only[g3,g4,if_true];exact Ev.now _
 ·simp only[hc,if_false];exact Ev.now _
theorem alh (ds:List al) (ns ss:List aa) (nx:Int) (nm:ByteArray) (h:Small ds ns ss) (m:Nat) (hm:m<ds.length) (hi:fo ds (du ns nm)=(m:Int)):Ev (fun k=>vV.f k ds ns ss nx nm) (m:Int):=by
 unfold vV.f;refine Ev.bind' (zp ds ns ss nx nm h.h1) ?_;refine Ev.bind' (KK ds ns ss nx h.h0 (du ns nm)) ?_;rw[hi];have g3:(0≤(m:Int))=True:=eq_true (by omega);have g4:((m:Int)<(ds.length:Int))=True:=eq_true (by omega);simp only[g3,g4,if_true];exact Ev.now _
theorem aln (ds:List al) (ns ss:List aa) (nx:Int) (nm:ByteArray) (hn:nm.size≤9223372036854775807) (h:Small ds ns ss):Ev (fun k=>Hp.f k ds ns ss nx nm) (nZ ds ns ss nx nm):=by
 unfold Hp.f;refine Ev.bind' (Cu (kU.f nm) ds ns ss nx [nm] true (jF ds (fo ds (du ns nm)).toNat,ns,ss,nx,0) h (by simp) (fun x hx=>by rw[List.mem_singleton.1 hx];exact hn) (fun _=>by simp) (fun hok _ hid=>⟨?_,fun _=>anu h _⟩)) ?_
 ·obtain⟨j,m,_,_,_,c5,c6⟩:=Oz hok (show du ns nm≠0 from hid rfl);unfold kU.f;rw[c6];exact Ev.bind' (alh ds ns ss nx nm h m c5 c6) (Ev.now _)
 ·rw[OA];unfold nZ;by_cases hc:df (bR ds ns ss nx) ns nm=0
  ·have hok:=(Ow hc).1;have hO:=anq hok (fo ds (du ns nm)).toNat;simp only[hc,if_true];unfold iT;simp only[alK hO,hO,if_true];exact Ev.now _
  ·simp only[hc,if_false];exact Ev.now _
def py (ds:List al) (ns ss:List aa) (nx:Int):dy:=if bR ds ns ss nx=true then iT ds ns ss nx ds ns ns nx else (ds,ns,ss,nx,1)
theorem alm (ds:List al) (ns ss:List aa) (nx:Int) (h:Small ds ns ss):Ev (fun k=>Hq.f k ds ns ss nx) (py ds ns ss nx):=by
 have hS:Small ds ns ns:=⟨h.h0,h.hd,h.h1,h.h1,h.z1,h.z1⟩;unfold Hq.f;refine Ev.bind' (Cu pa.f ds ns ss nx [] false (ds,ns,ns,nx,0) h (by simp) (fun _ hm=>by simp at hm) (fun h=>by simp at h) (fun _ _ _=>⟨?_,fun _=>hS⟩)) ?_
 ·refine Ev.congr (fun k=>?_) (Ev.now (ds,ns,ns,nx,0));unfold pa.f pa.g;rw[if_pos (by have:=h.h1;simp only[List.length_nil];omega)];rfl
 ·unfold yJ AJ py;simp only[Bool.false_and,Bool.false_eq_true,if_false,List.all_nil,if_true];exact Ev.now _
def renamed (ns:List aa) (a b:ByteArray):List aa:=iX (⟨b,du ns a⟩:aa) (fw (fw ns a) b)
def qd (ds:List al) (ns ss:List aa) (nx:Int) (a b:ByteArray):dy:=
 if df (bR ds ns ss nx) ns a=1∨fv b=false then (ds,ns,ss,nx,1) else if df (bR ds ns ss nx) ns a=0 then (if a.toList=b.toList then (ds,ns,ss,nx,0) else iT ds ns ss nx ds (renamed ns a b) ss nx) else (ds,ns,ss,nx,df (bR ds ns ss nx) ns a)
theorem SH {ns:List aa} (nm:ByteArray) (h:ns.Pairwise sy):(fw ns nm).Pairwise sy:=by rw[LJ];exact h.filter _
theorem aoj (ns:List aa) (nm:ByteArray):∀x ∈ fw ns nm,x.f0.toList≠nm.toList:=by
 intro x hx;rw[LJ]at hx;simpa using (List.mem_filter.1 hx).2
theorem alM {ds:List al} {ns ss:List aa} {nx:Int} (h:oE ds ns ss nx=true):kept ds ns ss=ds:=by
 have hm:(List.range ds.length).map (fun (i:Nat)=>ai ds (i:Int))=ds:=by
  refine List.ext_getElem (by simp) (fun i h1 h2=>?_);rw[List.getElem_map,List.getElem_range];unfold ai;simp[List.getD_eq_getElem?_getD,h2]
 unfold kept;rw[List.filter_eq_self.2 (fun i hi=>?_),hm];have hb:=wZ h i (by simpa using hi);unfold iW at hb;simp only[Bool.or_eq_false_iff,Bool.and_eq_false_iff,Bool.not_eq_false']at hb;rw[Bool.or_eq_true]
 rcases hb.2 with h1|h1
 ·exact .inl h1
 ·exact .inr h1
theorem afr {ds:List al} {ns ss:List aa} {nx:Int} {a:ByteArray} (h:df (bR ds ns ss nx) ns a=0):bR ds ns ss nx=true∧¬nameAt ns a<0:=by
 unfold df at h;split at h
 ·rename_i h1;rw[Bool.and_eq_true]at h1;split at h
  ·exact absurd h (by decide)
  ·exact⟨h1.1,by assumption⟩
 ·exact absurd h (by decide)
theorem ZG {ds:List al} {ns ss:List aa} {nx:Int} {a b:ByteArray} (h:Small ds ns ss) (hok:bR ds ns ss nx=true) (hn:b.size≤9223372036854775807):Small ds (renamed ns a b) ss:=by
 obtain⟨p1,p2,p3⟩:=uq hok;have hl:=JC p2;refine⟨h.h0,h.hd,?_,h.h2,fun x hx=>?_,h.z2⟩
 ·unfold renamed;rw[YQ];have h1:=xy (fw ns a) b;have h2:=xy ns a;omega
 ·rcases Hu hx with h1|h1
  ·rw[h1];exact hn
  ·exact h.z1 x (C5 (C5 h1))
def oI (ds:List al) (ns ss:List aa) (nx:Int) (nm:ByteArray):dy:=if df (bR ds ns ss nx) ns nm=0 then iT ds ns ss nx ds (fw ns nm) ss nx else (ds,ns,ss,nx,df (bR ds ns ss nx) ns nm)
def BE (ds:List al) (m:Nat) (b:List Int):List al:=ds.set m (⟨(ai ds (m:Int)).f0,(ai ds (m:Int)).f1++b,(ai ds (m:Int)).f2⟩:al)
theorem Vd {ds:List al} {ns ss:List aa} (h:Small ds ns ss) (hd:∀x ∈ ds,x.f1.length≤1048576) (m:Nat) (b:List Int) (hb:b.length≤1048600) (hm:m<ds.length):Small (BE ds m b) ns ss:=by
 refine⟨by unfold BE;rw[List.length_set];exact h.h0,fun x hx=>?_,h.h1,h.h2,h.z1,h.z2⟩
 rcases List.mem_or_eq_of_mem_set hx with h1|h1
 ·exact h.hd x h1
 ·rw[h1];show ((ai ds (m:Int)).f1++b).length≤4194304;rw[List.length_append];have:=hd _ (sI hm);omega
def nJ (ds:List al) (ns ss:List aa) (nx:Int) (nm:ByteArray) (b:List Int):dy:=if df (bR ds ns ss nx) ns nm=0 then iT ds ns ss nx (BE ds (fo ds (du ns nm)).toNat b) ns ss nx else (ds,ns,ss,nx,df (bR ds ns ss nx) ns nm)
theorem afu {ds:List al} {ns ss:List aa} {nx:Int} {nm:ByteArray} (hc:df (bR ds ns ss nx) ns nm=0):bR ds ns ss nx=true∧du ns nm≠0:=by
 unfold df at hc;cases hok:bR ds ns ss nx
 ·rw[hok]at hc;simp at hc
 ·refine⟨rfl,fun hid=>?_⟩
  rcases uN hok nm with ⟨c1,c2⟩|⟨j,m,c1,c2,c3,c4,_⟩
  ·rw[hok,Bool.true_and,if_pos (show nameAt ns nm<0 by omega)]at hc;split at hc<;>simp at hc
  ·exact c4 hid
theorem am3 (ds:List al) (ns ss:List aa) (nx:Int) (nm:ByteArray) (b:List Int) (hn:nm.size≤9223372036854775807) (h:Small ds ns ss) (hd:∀x ∈ ds,x.f1.length≤1048576) (hb:b.length≤1048600):Ev (fun k=>jE.f k ds ns ss nx nm b) (nJ ds ns ss nx nm b):=by
 unfold jE.f nJ;refine Ev.bind' (h.VM nx) ?_;refine Ev.bind' (Q2 ds ns ss nx nm hn h) ?_;by_cases hc:df (bR ds ns ss nx) ns nm=0
 ·obtain⟨hok,hid⟩:=afu hc;obtain⟨j,m,c1,c2,c3,c5,c6⟩:=Oz hok hid;simp only[hc,if_true];refine Ev.bind' (Hy ns nm h.h1) ?_;have g1:(0≤nameAt ns nm)=True:=eq_true (by omega);have g2:(nameAt ns nm<(ns.length:Int))=True:=eq_true (by omega);simp only[g1,g2,if_true];refine Ev.bind' (KP ds ns ss nx h.h0 _) ?_;rw[c2,←c3,c6];have g3:(0≤(m:Int))=True:=eq_true (by omega);have g4:((m:Int)<(ds.length:Int))=True:=eq_true (by omega);have g5:((ai ds (m:Int)).f1.length+b.length<140737488355328)=True:=eq_true (by have:=hd _ (sI c5);omega);simp only[g3,g4,g5,if_true];exact Ev.bind' (am5 ds ns ss nx _ ns ss nx h (Vd h hd m b hb c5)) (Ev.now _)
 ·simp only[hc,if_false];exact Ev.now _
theorem alg (ds:List al) (ns ss:List aa) (nx:Int) (nm:ByteArray) (h:Small ds ns ss) (m:Nat) (hm:m<ds.length) (hi:fo ds (du ns nm)=(m:Int)):Ev (fun k=>Jz.f k ds ns ss nx nm) (m:Int):=by
 unfold Jz.f;refine Ev.bind' (zp ds ns ss nx nm h.h1) ?_;refine Ev.bind' (KK ds ns ss nx h.h0 (du ns nm)) ?_;rw[hi];have g3:(0≤(m:Int))=True:=eq_true (by omega);have g4:((m:Int)<(ds.length:Int))=True:=eq_true (by omega);simp only[g3,g4,if_true];exact Ev.now _
theorem alc (ds:List al) (ns ss:List aa) (nx:Int) (nm:ByteArray) (b:List Int) (hn:nm.size≤9223372036854775807) (h:Small ds ns ss) (hd:∀x ∈ ds,x.f1.length≤1048576) (hb:b.length≤1048600):Ev (fun k=>Cv.f k ds ns ss nx nm b) (nJ ds ns ss nx nm b):=by
 unfold Cv.f;refine Ev.bind' (Cu (iq.f nm b) ds ns ss nx [nm] true (BE ds (fo ds (du ns nm)).toNat b,ns,ss,nx,0) h (by simp) (fun x hx=>by rw[List.mem_singleton.1 hx];exact hn) (fun _=>by simp) (fun hok _ hid=>?_)) ?_
 ·obtain⟨j,m,_,_,_,c5,c6⟩:=Oz hok (show du ns nm≠0 from hid rfl);rw[c6];refine⟨?_,fun _=>Vd h hd m b hb c5⟩;unfold iq.f;refine Ev.bind' (alg ds ns ss nx nm h m c5 c6) ?_;have g5:((ai ds (m:Int)).f1.length+b.length<140737488355328)=True:=eq_true (by have:=hd _ (sI c5);omega);simp only[g5,if_true];exact Ev.now _
 ·rw[OA];unfold nJ;simp only[if_true];exact Ev.now _
def agL (k7:Int) (x:al):al:=
 if k7<(x.f1.length:Int)-x.f2 then (⟨x.f0,x.f1.take (x.f2+k7).toNat,x.f2+k7⟩:al) else (⟨x.f0,x.f1,(x.f1.length:Int)⟩:al)
def apU (ok:Bool) (ds:List al) (ns ss:List aa) (nx:Int) (k7:Int):List al × List aa × List aa × Int:=
 if ok=true∧0≤k7 then (((List.range ds.length).filter (fun (i:Nat)=>named ss (ai ds (i:Int)).f0)).map (fun (i:Nat)=>agL k7 (ai ds (i:Int))),ss,ss,nx) else (ds,ns,ss,nx)
def ap3 (x:al):Prop:=0≤x.f2∧x.f2≤(x.f1.length:Int)∧x.f1.length≤1048576
def l9 (ok:Bool) (ds:List al) (ns:List aa) (nm:ByteArray):List Int × Bool:=
 if ok=true∧0≤nameAt ns nm then ((ai ds (fo ds (aG ns (nameAt ns nm)).f1)).f1,true) else ([],false)
theorem ald (ds:List al) (ns ss:List aa) (nx:Int) (nm:ByteArray) (h0:ds.length≤1048576) (hd:∀x ∈ ds,x.f1.length≤1048576) (h1:ns.length≤1048576) (h2:ss.length≤1048576) (z1:∀e ∈ ns,e.f0.size≤9223372036854775807) (z2:∀e ∈ ss,e.f0.size≤9223372036854775807):Ev (fun k=>iw.f k ds ns ss nx nm) (l9 (bR ds ns ss nx) ds ns nm):=by
 obtain⟨K1,e1⟩:=YF ds ns ss nx h0 (fun x hx=>Nat.le_trans (hd x hx) (by decide)) h1 h2 z1 z2;obtain⟨K3,e3⟩:=zp ds ns ss nx nm h1;obtain⟨K4,e4⟩:=KK ds ns ss nx h0 (du ns nm);dsimp only at e1 e3 e4;refine⟨K1+K3+K4+1,fun k hk=>?_⟩;obtain⟨q,rfl⟩:∃q,k=q+1:=⟨k-1,by omega⟩;simp only[iw.f];rw[e3 _ (by omega),Option.bind_some,e4 _ (by omega),Option.bind_some,e1 _ (by omega),Option.bind_some];unfold l9;cases hok:bR ds ns ss nx
 ·rw[if_neg (by decide),if_neg (by simp)];simp only[iw.j0];rfl
 rw[if_pos rfl,Option.bind_some]
 rcases uN hok nm with ⟨c1,c2⟩|⟨j,m,c1,c2,c3,c4,c5,c6,_⟩
 ·rw[if_pos c2,if_neg (by omega)];simp only[iw.j0];rfl
 ·rw[if_neg c4,if_pos (show true=true∧0≤nameAt ns nm from ⟨rfl,by omega⟩),c3,c6,c2,c6];have hm:=hd _ (sI c5);simp only[iw.j0,wX.f];rw[if_neg (by simp),if_pos (by omega),if_pos (by omega),if_pos (by simp only[List.length_nil];omega),List.nil_append];rfl
theorem am4 (ds:List al) (ns ss:List aa) (nx:Int) (nm:ByteArray) (hn:nm.size≤9223372036854775807) (h0:ds.length≤1048576) (hd:∀x ∈ ds,x.f1.length≤1048576) (h1:ns.length≤1048576) (h2:ss.length≤1048576) (z1:∀e ∈ ns,e.f0.size≤9223372036854775807) (z2:∀e ∈ ss,e.f0.size≤9223372036854775807):Ev (fun k=>pt.f k ds ns ss nx nm) (l9 (bR ds ns ss nx) ds ns nm):=by
 obtain⟨K1,e1⟩:=ZY ds ns ss nx h0 (fun x hx=>Nat.le_trans (hd x hx) (by decide)) h1 h2 z1 z2;obtain⟨K2,e2⟩:=Sg nm hn;obtain⟨K3,e3⟩:=Hy ns nm h1;obtain⟨K4,e4⟩:=KP ds ns ss nx h0 (aG ns (nameAt ns nm)).f1;dsimp only at e1 e2 e3 e4;refine⟨K1+K2+K3+K4+1,fun k hk=>?_⟩;obtain⟨q,rfl⟩:∃q,k=q+1:=⟨k-1,by omega⟩;simp only[pt.f,fX.f];rw[e1 _ (by omega),Option.bind_some];unfold l9;cases hok:bR ds ns ss nx
 ·rw[if_neg (by decide),if_neg (by simp)];simp only[fX.j0];rfl
 rw[if_pos rfl,e2 _ (by omega),Option.bind_some]
 rcases uN hok nm with ⟨c1,_⟩|⟨j,m,c1,c2,_,_,c3,c4,c5⟩
 ·rw[if_neg (by omega)];simp only[fX.j0];cases fv nm
  ·rfl
  ·rw[if_neg (by decide),e3 _ (by omega),Option.bind_some,if_pos (by omega)];rfl
 ·rw[c5,if_pos (show true=true∧0≤nameAt ns nm from ⟨rfl,by omega⟩)];simp only[fX.j0];rw[if_neg (by decide),e3 _ (by omega),Option.bind_some,if_neg (by omega),Option.bind_some,if_pos rfl,e3 _ (by omega),Option.bind_some,if_pos (by omega),if_pos (by omega),e4 _ (by omega),Option.bind_some,Option.bind_some];rw[c2,c4];have hm:=hd _ (sI c3);rw[if_pos (by omega),if_pos (by omega),if_pos (by simp only[List.length_nil];omega),List.nil_append]
theorem QX (ns:List aa) (nm:ByteArray) (h:ns.length≤1048576):Ev (fun k=>ir.f k ns nm) (fw ns nm):=by
 refine Ev.congr (fun k=>?_) (JG (fun k out i=>ir.U k nm out ns (ns.length:Int) (i:Int)) ns.length _ _ (fun out=>out) (fun i out r hi ho hp h=>?_) (fun i out r hi ho hp h=>?_) (fun out ho=>?_))
 ·simp only[ir.f];rfl
 ·refine Ev.step (fun k=>?_) h;simp only[ir.U];rw[if_pos (by omega),if_pos (by omega),if_pos (by omega),if_neg (by simpa using hp),if_pos (by omega),fM (n:=ns.length) hi (by omega)]
 ·refine Ev.step (fun k=>?_) h;simp only[ir.U];rw[if_pos (by omega),if_pos (by omega),if_pos (by omega),if_pos (by simpa using hp),fM (n:=ns.length) hi (by omega)]
 ·refine Ev.ends (fun k=>?_);simp only[ir.U];rw[if_neg (by omega)]
theorem alj (ds:List al) (ns ss:List aa) (nx:Int) (nm:ByteArray) (hn:nm.size≤9223372036854775807) (h:Small ds ns ss):Ev (fun k=>Hn.f k ds ns ss nx nm) (oI ds ns ss nx nm):=by
 unfold Hn.f;refine Ev.bind' (Cu (rX.f nm) ds ns ss nx [nm] true (ds,fw ns nm,ss,nx,0) h (by simp) (fun x hx=>by rw[List.mem_singleton.1 hx];exact hn) (fun _=>by simp) (fun _ _ _=>⟨?_,fun _=>h.fw nm⟩)) ?_
 ·unfold rX.f;exact Ev.bind' (QX ns nm h.h1) (Ev.now _)
 ·rw[OA];unfold oI;simp only[if_true];exact Ev.now _
theorem alk (ds:List al) (ns ss:List aa) (nx:Int) (a b:ByteArray) (ha:a.size≤9223372036854775807) (hb:b.size≤9223372036854775807) (h:Small ds ns ss):Ev (fun k=>Ho.f k ds ns ss nx a b) (qd ds ns ss nx a b):=by
 unfold Ho.f;refine Ev.bind' (Cu (jP.f a b) ds ns ss nx [a,b] true (if a.toList=b.toList then (ds,ns,ss,nx,0) else (ds,renamed ns a b,ss,nx,0)) h (by simp) (fun x hx=>?_) (fun _=>by simp) (fun hok hno _=>?_)) ?_
 ·rcases List.mem_cons.1 hx with rfl|hx
  ·exact ha
  ·rw[List.mem_singleton.1 hx];exact hb
 ·unfold jP.f;by_cases hab:a.toList=b.toList
  ·simp only[hab,if_true];exact⟨Ev.now _,fun _=>h⟩
  ·simp only[hab,if_false];refine⟨?_,fun _=>ZG h hok hb⟩;have hr:=JD (uq hok).2.1;refine Ev.bind' (zp ds ns ss nx a h.h1) ?_;refine Ev.bind' (QX ns a h.h1) ?_;refine Ev.bind' (QX (fw ns a) b (Nat.le_trans (xy ns a) h.h1)) ?_;have l1:=xy (fw ns a) b;have l2:=xy ns a;have g0:(fw (fw ns a) b).length<5864062014805:=by have:=h.h1;omega
   have ep:bo.f (fw (fw ns a) b) b (du ns a)=some (renamed ns a b):=by
    unfold bo.f renamed;rw[if_pos g0,Zy _ _ (SH b (SH a hr)) (aoj _ b)]
   simp only[ep,Option.bind_some];exact Ev.now _
 ·have e0:jo ByteArray.empty [a,b] 0=a:=rfl;unfold yJ AJ qd df;rw[e0,List.all_cons,List.all_cons,List.all_nil,Bool.and_true,Bool.true_and];cases hok:bR ds ns ss nx
  ·simp only[Bool.false_and,Bool.false_eq_true,if_false,true_or,if_true];exact Ev.now _
  simp only[Bool.true_and,if_true];cases hno:fv a
  ·simp only[Bool.false_and,Bool.false_eq_true,if_false,true_or,if_true];exact Ev.now _
  simp only[Bool.true_and,if_true];cases hnb:fv b
  ·simp only[Bool.false_eq_true,if_false,or_true,if_true];exact Ev.now _
  simp only[if_true,Bool.true_eq_false,or_false]
  rcases uN hok a with ⟨c1,c2⟩|⟨j,m,c1,c2,c3,c4,c5,c6,_⟩
  ·have e2:nameAt ns a<0:=by omega
   simp only[e2,c2,if_true,BEq.rfl,show ¬((2:Int)=1) by decide,show ¬((2:Int)=0) by decide,if_false];exact Ev.now _
  ·have e2:¬nameAt ns a<0:=by omega
   simp only[e2,if_false,beq_eq_false_iff_ne.2 c4,Bool.false_eq_true,show ¬((0:Int)=1) by decide,if_true];by_cases hab:a.toList=b.toList
   ·simp only[hab,if_true]
    have hk:iT ds ns ss nx ds ns ss nx=(ds,ns,ss,nx,0):=by
     unfold iT;rw[alM (uq hok).1,if_pos hok]
    rw[hk];exact Ev.now _
   ·simp only[hab,if_false,if_true];exact Ev.now _
end Go.Proofs.YtingkpnoiekliaaGreat.MZ
