/- What the functions over disks answer, in plain lists: for the walks by hand. -/
import Derived.Test.YtingkpnoiekliaaGreatG3
import Derived.Test.YtingkpnoiekliaaGreatMZx13
import Derived.Test.YtingkpnoiekliaaGreatG5
import Derived.Test.YtingkpnoiekliaaGreatG7
import Derived.Test.YtingkpnoiekliaaGreatMZx26
import Derived.Test.YtingkpnoiekliaaGreatMZx27
import Derived.Test.YtingkpnoiekliaaGreatMZx31
import Derived.Test.YtingkpnoiekliaaGreatG11
import Derived.Test.YtingkpnoiekliaaGreatG12
import Derived.Test.YtingkpnoiekliaaGreatG13
import Derived.Test.YtingkpnoiekliaaGreatMZx52
import Derived.Sort.AssemblyPlain
set_option linter.unusedVariables false
set_option linter.unusedSimpArgs false
namespace Go.Proofs.YtingkpnoiekliaaGreat.MZ
open Go.RowKit Go.Proofs.YtingkpnoiekliaaGreatW.PrintWords Go.Proofs.YtingkpnoiekliaaGreatW.PrintLast Go.Proofs.YtingkpnoiekliaaGreatW.PrintMore
def bJ (b:List Int):Prop:=∀i:Int,0≤rd b i∧rd b i≤255
theorem bJ.mem {b:List Int} (h:bJ b):∀x ∈ b,0≤x∧x≤255:=by
 intro x hx;obtain⟨i,hi,rfl⟩:=List.mem_iff_getElem.1 hx;have:=h (i:Int);simpa[rd,List.getD_eq_getElem?_getD,List.getElem?_eq_getElem hi] using this
theorem bJ.vo {b:List Int} (h:∀x ∈ b,0≤x∧x≤255):bJ b:=by
 intro i;unfold rd;rw[List.getD_eq_getElem?_getD];cases e:b[i.toNat]? with
 |none=>simp
 |some x=>exact h x (List.mem_of_getElem? e)
theorem Ux {b:List Int} {i:Nat} (h:i<b.length):b.drop i=rd b (i:Int)::b.drop (i+1):=by
 rw[List.drop_eq_getElem_cons h,FZ,List.getD_eq_getElem?_getD,List.getElem?_eq_getElem h];rfl
theorem bJ.set {l:List Int} (h:bJ l) (i:Nat) (x:Int) (h0:0≤x) (h1:x≤255):bJ (l.set i x):=by
 apply bJ.vo;intro y hy
 rcases List.mem_or_eq_of_mem_set hy with hm|rfl
 ·exact h.mem y hm
 ·exact⟨h0,h1⟩
theorem bJ.append {l m:List Int} (h:bJ l) (h':bJ m):bJ (l++m):=by
 apply bJ.vo;intro y hy
 rcases List.mem_append.1 hy with hm|hm
 ·exact h.mem y hm
 ·exact h'.mem y hm
theorem bJ.nil:bJ []:=bJ.vo (by simp)
theorem bJ.one {x:Int} (h0:0≤x) (h1:x≤255):bJ [x]:=bJ.vo (by intro y hy;rw[List.mem_singleton]at hy;subst hy;exact⟨h0,h1⟩)
theorem agE {β γ:Type} (L:Nat→List β→Nat→Option γ) (n:Nat) (p:Nat→Bool) (h:Nat→β) (r:γ)
 (D7:∀(i:Nat) (out:List β) (r:γ),i<n→out.length≤i→p i=true→Ev (fun k=>L k (out++[h i]) (i+1)) r→Ev (fun k=>L k out i) r)
 (fp:∀(i:Nat) (out:List β) (r:γ),i<n→out.length≤i→p i=false→Ev (fun k=>L k out (i+1)) r→Ev (fun k=>L k out i) r)
 (he:Ev (fun k=>L k (((List.range n).filter p).map h) n) r):Ev (fun k=>L k [] 0) r:=by
 have key:∀(d i:Nat),i+d=n→Ev (fun k=>L k (((List.range i).filter p).map h) i) r:=by
  intro d
  induction d with
  |zero=>
   intro i hi;have:i=n:=by omega
   subst this;exact he
  |succ d ih=>
   intro i hi;have hl:(((List.range i).filter p).map h).length≤i:=by rw[List.length_map];exact Nat.le_trans (List.length_filter_le _ _) (by simp)
   have hn:=ih (i+1) (by omega);rw[List.range_succ,List.filter_append,List.map_append]at hn;cases hp:p i
   ·refine fp i _ _ (by omega) hl hp ?_;simpa[hp] using hn
   ·refine D7 i _ _ (by omega) hl hp ?_;simpa[hp] using hn
 exact key n 0 (by omega)
theorem Small.spec {ds:List aj} {ns ss:List ab} (h:Small ds ns ss) (nx:Int):Ev (fun k=>pO.f k ds ns ss nx) (bO ds ns ss nx):=P9 ds ns ss nx h.h0 h.hd h.h1 h.h2 h.z1 h.z2
theorem Small.impl {ds:List aj} {ns ss:List ab} (h:Small ds ns ss) (nx:Int):Ev (fun k=>kU.f k ds ns ss nx) (bO ds ns ss nx):=X1 ds ns ss nx h.h0 h.hd h.h1 h.h2 h.z1 h.z2
theorem Small.Uo {ds:List aj} {ns ss:List ab} (h:Small ds ns ss) (nx:Int):Ev (fun k=>dY.f k ds ns ss nx) (ds,ns,ss,nx):=OI ds ns ss nx h.h0 h.hd h.h1 h.h2
theorem Small.HE {ds:List aj} {ns ss:List ab} (h:Small ds ns ss) (nx:Int):Ev (fun k=>fJ.f k ds ns ss nx) (ds,ns,ss,nx):=afw ds ns ss nx h.h0 h.hd h.h1 h.h2
theorem akI (mdo:Nat→List aj→List ab→List ab→Int→Option dG) (d0:List aj) (n0 s0:List ab) (x0:Int) (ds:List aj) (ns ss:List ab) (nx:Int) (e0:List aj) (h0:Small d0 n0 s0) (h:Small ds ns ss):Ev (fun k=>b8.l1 mdo k [] ds (ds.length:Int) 0 d0 n0 s0 x0 e0 ns ss nx) (jl d0 n0 s0 x0 ds ns ss nx):=by
 refine agE (fun k out i=>b8.l1 mdo k out ds (ds.length:Int) (i:Int) d0 n0 s0 x0 e0 ns ss nx) ds.length (fun (i:Nat)=>named ns (ae ds (i:Int)).f0 || named ss (ae ds (i:Int)).f0) (fun (i:Nat)=>ae ds (i:Int)) _ (fun i out r hi ho hp hh=>?_) (fun i out r hi ho hp hh=>?_) ?_
 ·obtain⟨K,e⟩:=DG ns h.h1 (ae ds (i:Int)).f0;obtain⟨K2,e2⟩:=DG ss h.h2 (ae ds (i:Int)).f0;dsimp only at e e2;have hb:=h.h0;refine Ev.round ⟨K+K2,fun k hk=>?_⟩ hh;simp only[b8.l1];rw[if_pos (by omega),if_pos (by omega),if_pos (by omega),e k (by omega),Option.bind_some];cases hq:named ns (ae ds (i:Int)).f0
  ·rw[hq,Bool.false_or]at hp;rw[if_neg (by decide),e2 k (by omega),Option.bind_some,hp,if_pos rfl,if_pos (by omega),jQ (n:=ds.length) hi (by omega)]
  ·rw[if_pos rfl,if_pos (by omega),jQ (n:=ds.length) hi (by omega)]
 ·obtain⟨K,e⟩:=DG ns h.h1 (ae ds (i:Int)).f0;obtain⟨K2,e2⟩:=DG ss h.h2 (ae ds (i:Int)).f0;dsimp only at e e2;rw[Bool.or_eq_false_iff]at hp;have hb:=h.h0;refine Ev.round ⟨K+K2,fun k hk=>?_⟩ hh;simp only[b8.l1];rw[if_pos (by omega),if_pos (by omega),if_pos (by omega),e k (by omega),Option.bind_some,hp.1,if_neg (by decide),e2 k (by omega),Option.bind_some,hp.2,if_neg (by decide),jQ (n:=ds.length) hi (by omega)]
 ·refine Ev.step (f:=fun k=>(kU.f k (kept ds ns ss) ns ss nx).bind fun t=>(if t=true then (some (kept ds ns ss,ns,ss,nx,0)) else ((fJ.f k d0 n0 s0 x0).bind fun bt=>(some (bt.1,bt.2.1,bt.2.2.1,bt.2.2.2,4))))) (fun k=>?_) ?_
  ·simp only[b8.l1];rw[if_neg (by omega)];rfl
  ·refine Ev.bind' (h.kept.impl nx) ?_;unfold jl;cases bO (kept ds ns ss) ns ss nx
   ·simp only[Bool.false_eq_true,if_false];exact Ev.bind' (h0.HE x0) (Ev.now _)
   ·simp only[if_true];exact Ev.now _
theorem amr (d0:List aj) (n0 s0:List ab) (x0:Int) (ds:List aj) (ns ss:List ab) (nx:Int) (h0:Small d0 n0 s0) (h:Small ds ns ss):Ev (fun k=>s5.f k d0 n0 s0 x0 ds ns ss nx) (jl d0 n0 s0 x0 ds ns ss nx):=⟨0,fun k _=>if_pos ⟨xi.2 h0,xi.2 h⟩⟩
def nameAt (l:List ab) (nm:ByteArray):Int:=fl (fun i=>decide ((aK l (i:Int)).f0.toList=nm.toList)) (fun i=>(i:Int)) (-1) 0 l.length
def dN (l:List ab) (nm:ByteArray):Int:=fl (fun i=>decide ((aK l (i:Int)).f0.toList=nm.toList)) (fun i=>(aK l (i:Int)).f1) 0 0 l.length
theorem yN (ds:List aj) (l c:List ab) (n:Int) (nm:ByteArray) (h:l.length≤1048576):Ev (fun k=>fq.f k ds l c n nm) (dN l nm):=by
 refine Ev.congr (fun k=>?_) (wC (fun i k=>fq.U k nm l (l.length:Int) (i:Int)) l.length _ _ _ (fun i r hi hp h=>?_) (fun i hi hp=>?_) ?_)
 ·simp only[fq.f];rfl
 ·refine Ev.step (fun k=>?_) h;simp only[fq.U];rw[if_pos (by omega),if_pos (by omega),if_pos (by omega),if_neg (by simpa using hp),jQ (n:=l.length) hi (by omega)]
 ·refine Ev.ends (fun k=>?_);simp only[fq.U];rw[if_pos (by omega),if_pos (by omega),if_pos (by omega),if_pos (by simpa using hp)]
 ·refine Ev.ends (fun k=>?_);simp only[fq.U];rw[if_neg (by omega)]
theorem FR (l:List ab) (nm:ByteArray) (h:l.length≤1048576):Ev (fun k=>ic.f k l nm) (nameAt l nm):=by
 refine Ev.congr (fun k=>?_) (wC (fun i k=>ic.U k l nm (i:Int)) l.length _ _ _ (fun i r hi hp h=>?_) (fun i hi hp=>?_) ?_)
 ·simp only[ic.f];rfl
 ·refine Ev.step (fun k=>?_) h;simp only[ic.U];rw[if_pos (by omega),if_pos (by omega),if_neg (by simpa using hp),jQ (n:=l.length) hi (by omega)]
 ·refine Ev.ends (fun k=>?_);simp only[ic.U];rw[if_pos (by omega),if_pos (by omega),if_pos (by simpa using hp)]
 ·refine Ev.ends (fun k=>?_);simp only[ic.U];rw[if_neg (by omega)]
theorem vn {ds:List aj} {ns ss:List ab} {nx:Int} (h:bO ds ns ss nx=true) (nm:ByteArray) :
 (nameAt ns nm = -1∧dN ns nm=0)∨(∃j m,j<ns.length∧nameAt ns nm=(j:Int)∧dN ns nm=(aK ns (j:Int)).f1∧dN ns nm≠0∧m<ds.length∧fK ds (aK ns (j:Int)).f1=(m:Int)∧fe nm=true):=by
 obtain⟨hi,h1,_⟩:=tK h;unfold nameAt dN
 rcases yD (fun i=>decide ((aK ns (i:Int)).f0.toList=nm.toList)) ns.length 0 with ⟨j,_,j2,j3,j4⟩|⟨_,j2⟩
 ·right;obtain⟨e1,e2⟩:=UA h1 j (by omega);obtain⟨m,m1,m2,m3⟩:=FJ e2;have hp:=(Ju (tQ hi m m1)).1;refine⟨j,m,by omega,j4 _ _,j4 _ _,?_,m1,m2,?_⟩
  ·rw[j4,←m3];omega
  ·rw[←Qx (of_decide_eq_true j3)];exact e1
 ·left;exact⟨j2 _ _,j2 _ _⟩
def dt (ok:Bool) (ns:List ab) (nm:ByteArray):Int:=if (ok&&fe nm)=true then (if nameAt ns nm<0 then 2 else 0) else 1
theorem OH (ds:List aj) (ns ss:List ab) (nx:Int) (nm:ByteArray) (hn:nm.size≤9223372036854775807) (h:Small ds ns ss):Ev (fun k=>gJ.f k ds ns ss nx nm) (dt (bO ds ns ss nx) ns nm):=by
 obtain⟨K1,e1⟩:=h.spec nx;obtain⟨K2,e2⟩:=Qc nm hn;obtain⟨K3,e3⟩:=FR ns nm h.h1;dsimp only at e1 e2 e3;refine⟨K1+K2+K3+1,fun k hk=>?_⟩;obtain⟨q,rfl⟩:∃q,k=q+1:=⟨k-1,by omega⟩;simp only[gJ.f];rw[e1 _ (by omega),Option.bind_some];unfold dt;cases bO ds ns ss nx
 ·rw[if_neg (by decide),Bool.false_and,if_neg (by decide)];simp only[gJ.j0];rfl
 rw[if_pos rfl,e2 _ (by omega),Option.bind_some,Bool.true_and];simp only[gJ.j0];cases fe nm
 ·rfl
 ·rw[if_neg (by decide),if_pos rfl,e3 _ (by omega),Option.bind_some];split<;>rfl
abbrev SF:=Nat→List aj→List ab→List ab→Int→Option dG
def zx (ds:List aj) (ns ss:List ab) (nx:Int) (names:List ByteArray) (there:Bool) (R:dG):dG:=
 if (there&&dN ns (kv ByteArray.empty names 0) == 0)=true then (ds,ns,ss,nx,2) else if R.2.2.2.2=0 then jl ds ns ss nx R.1 R.2.1 R.2.2.1 R.2.2.2.1 else (ds,ns,ss,nx,R.2.2.2.2)
def yv (ds:List aj) (ns ss:List ab) (nx:Int) (names:List ByteArray) (there:Bool) (R:dG):dG:=
 if bO ds ns ss nx=true then (if names.all fe=true then zx ds ns ss nx names there R else (ds,ns,ss,nx,1)) else (ds,ns,ss,nx,1)
theorem X2 (mdo:SF) (ds:List aj) (ns ss:List ab) (nx:Int) (R:dG) (h:Small ds ns ss) (hm:Ev (fun k=>mdo k ds ns ss nx) R∧(R.2.2.2.2=0→Small R.1 R.2.1 R.2.2.1)) :
 Ev (fun k=>b8.j1 mdo k false ds ns ss nx ds ns ss nx) (if R.2.2.2.2=0 then jl ds ns ss nx R.1 R.2.1 R.2.2.1 R.2.2.2.1 else (ds,ns,ss,nx,R.2.2.2.2)):=by
 refine Ev.step (f:=fun k=>(mdo k ds ns ss nx).bind fun t=>(if t.2.2.2.2=0 then (b8.l1 mdo k [] t.1 (t.1.length:Int) 0 ds ns ss nx t.1 t.2.1 t.2.2.1 t.2.2.2.1) else ((fJ.f k ds ns ss nx).bind fun b=>(some (b.1,b.2.1,b.2.2.1,b.2.2.2,t.2.2.2.2))))) (fun k=>?_) (Ev.bind' hm.1 ?_)
 ·simp only[b8.j1,Bool.false_eq_true,if_false]
 ·by_cases hc:R.2.2.2.2=0
  ·simp only[hc,if_true];exact akI mdo ds ns ss nx R.1 R.2.1 R.2.2.1 R.2.2.2.1 R.1 h (hm.2 hc)
  ·simp only[hc,if_false];exact Ev.bind' (h.HE nx) (Ev.now _)
theorem Br (mdo:SF) (ds:List aj) (ns ss:List ab) (nx:Int) (names:List ByteArray) (there:Bool) (R:dG) (h:Small ds ns ss) (hl:names.length≤2) (hz:∀nm ∈ names,nm.size≤9223372036854775807) (hth:there=true→0<names.length)
 (hm:bO ds ns ss nx=true→names.all fe=true→(there=true→dN ns (kv ByteArray.empty names 0)≠0)→Ev (fun k=>mdo k ds ns ss nx) R∧(R.2.2.2.2=0→Small R.1 R.2.1 R.2.2.1)):Ev (fun k=>b8.f mdo k ds ns ss nx names there) (yv ds ns ss nx names there R):=by
 unfold b8.f yv;refine Ev.bind' (h.HE nx) ?_;refine Ev.bind' (h.impl nx) ?_;cases hok:bO ds ns ss nx
 ·simp only[Bool.false_eq_true,if_false];exact Ev.now _
 simp only[if_true]
 have key:∀(d i:Nat),i+d=names.length→((names.drop i).all fe=true→names.all fe=true)→Ev (fun k=>b8.U mdo k names there names (names.length:Int) (i:Int) ds ns ss nx ds ns ss nx) (if (names.drop i).all fe=true then zx ds ns ss nx names there R else (ds,ns,ss,nx,1)):=by
  intro d
  induction d with
  |zero=>
   intro i hi hall;have e:names.drop i=[]:=List.drop_eq_nil_of_le (by omega);rw[e]at hall ⊢;have hall:=hall rfl;rw[if_pos (show ([]:List ByteArray).all fe=true from rfl)];unfold zx;cases there with
   |false=>
    rw[Bool.false_and,if_neg (by decide)];refine Ev.step (f:=fun k=>b8.j1 mdo k false ds ns ss nx ds ns ss nx) (fun k=>?_) (X2 mdo ds ns ss nx R h (hm hok hall (fun h=>by simp at h)));simp only[b8.U];rw[if_neg (by omega),if_neg (by decide)]
   |true=>
    rw[Bool.true_and];obtain⟨K,e1⟩:=yN ds ns ss nx (kv ByteArray.empty names 0) h.h1;have hpos:=hth rfl;dsimp only at e1;refine Ev.round (f:=fun k=>b8.j1 mdo k (dN ns (kv ByteArray.empty names 0) == 0) ds ns ss nx ds ns ss nx) ⟨K,fun k hk=>?_⟩ ?_
    ·simp only[b8.U];rw[if_neg (by omega),if_pos trivial,if_pos (by omega),e1 k hk,Option.bind_some]
    ·by_cases hc:dN ns (kv ByteArray.empty names 0)=0
     ·rw[hc];refine Ev.ends (fun k=>?_);simp only[b8.j1];rfl
     ·rw[beq_eq_false_iff_ne.2 hc,if_neg (by decide)];exact X2 mdo ds ns ss nx R h (hm hok hall (fun _=>hc))
  |succ d ih=>
   intro i hi hall;have hil:i<names.length:=by omega
   have ed:names.drop i=names[i]::names.drop (i+1):=List.drop_eq_getElem_cons hil
   have er:kv ByteArray.empty names (i:Int)=names[i]:=by
    show names.getD i ByteArray.empty=_;rw[List.getD_eq_getElem?_getD,List.getElem?_eq_getElem hil];rfl
   obtain⟨K1,e1⟩:=X3 names[i] (hz _ (List.getElem_mem hil));dsimp only at e1;rw[ed,List.all_cons]at hall ⊢;cases hno:fe names[i] with
   |false=>
    rw[Bool.false_and,if_neg (by decide)];refine Ev.round (f:=fun k=>some (ds,ns,ss,nx,1)) ⟨K1,fun k hk=>?_⟩ (Ev.now _);simp only[b8.U];rw[if_pos (by omega),if_pos (by omega),if_pos (by omega),er,e1 k hk,Option.bind_some,hno,if_neg (by decide)]
   |true=>
    rw[hno,Bool.true_and]at hall;rw[Bool.true_and];refine Ev.round (f:=fun k=>b8.U mdo k names there names (names.length:Int) ((i+1:Nat):Int) ds ns ss nx ds ns ss nx) ⟨K1,fun k hk=>?_⟩ (ih (i+1) (by omega) hall);simp only[b8.U];rw[if_pos (by omega),if_pos (by omega),if_pos (by omega),er,e1 k hk,Option.bind_some,hno,if_pos rfl,jQ (n:=names.length) hil (by omega)]
 have:=key names.length 0 (by omega) (fun h=>h);rw[List.drop_zero]at this;exact this
theorem MQ (ds:List aj) (ns ss:List ab) (nx:Int) (nm:ByteArray) (R:dG):yv ds ns ss nx [nm] true R=if dt (bO ds ns ss nx) ns nm=0 then (if R.2.2.2.2=0 then jl ds ns ss nx R.1 R.2.1 R.2.2.1 R.2.2.2.1 else (ds,ns,ss,nx,R.2.2.2.2)) else (ds,ns,ss,nx,dt (bO ds ns ss nx) ns nm):=by
 unfold yv zx dt;have e0:kv ByteArray.empty [nm] 0=nm:=rfl;rw[e0,List.all_cons,List.all_nil,Bool.and_true,Bool.true_and];cases hok:bO ds ns ss nx
 ·simp
 ·rw[Bool.true_and,if_pos rfl];cases hno:fe nm
  ·simp
  ·rw[if_pos rfl,if_pos rfl]
   rcases vn hok nm with ⟨c1,c2⟩|⟨j,m,c1,c2,c3,c4,_⟩
   ·rw[c2,if_pos (by decide),if_pos (show nameAt ns nm<0 by omega),if_neg (by decide)]
   ·rw[beq_eq_false_iff_ne.2 c4,if_neg (by decide),if_neg (show ¬nameAt ns nm<0 by omega),if_pos rfl]
theorem MP {ds:List aj} {ns ss:List ab} {nx:Int} {nm:ByteArray} (hok:bO ds ns ss nx=true) (hid:dN ns nm≠0):∃j m,j<ns.length∧nameAt ns nm=(j:Int)∧dN ns nm=(aK ns (j:Int)).f1∧m<ds.length∧fK ds (dN ns nm)=(m:Int):=by
 rcases vn hok nm with ⟨c1,c2⟩|⟨j,m,c1,c2,c3,c4,c5,c6,_⟩
 ·exact absurd c2 hid
 ·exact⟨j,m,c1,c2,c3,c5,by rw[c3];exact c6⟩
def fW (ns:List ab) (nm:ByteArray):List ab:=((List.range ns.length).filter (fun (i:Nat)=>!decide ((aK ns (i:Int)).f0.toList=nm.toList))).map (fun (i:Nat)=>aK ns (i:Int))
theorem xw (ns:List ab) (nm:ByteArray):(fW ns nm).length≤ns.length:=by
 unfold fW;rw[List.length_map];exact Nat.le_trans (List.length_filter_le _ _) (by simp)
theorem BU {ns:List ab} {nm:ByteArray} {x:ab} (h:x ∈ fW ns nm):x ∈ ns:=by
 obtain⟨i,hi,rfl⟩:=List.mem_map.1 h;exact JZ (by simpa using (List.mem_filter.1 hi).1)
theorem Small.fW {ds:List aj} {ns ss:List ab} (h:Small ds ns ss) (nm:ByteArray):Small ds (fW ns nm) ss:=⟨h.h0,h.hd,Nat.le_trans (xw ns nm) h.h1,h.h2,fun e he=>h.z1 e (BU he),h.z2⟩
theorem amy (ns:List ab) (nm:ByteArray) (h:ns.length≤1048576):Ev (fun k=>me.f k ns nm) (fW ns nm):=by
 refine Ev.congr (fun k=>?_) (H3 (fun k out i=>me.U k ns nm out (i:Int)) ns.length _ _ (fun out=>out) (fun i out r hi ho hp h=>?_) (fun i out r hi ho hp h=>?_) (fun out ho=>?_))
 ·simp only[me.f];rfl
 ·refine Ev.step (fun k=>?_) h;simp only[me.U];rw[if_pos (by omega),if_pos (by omega),if_neg (by simpa using hp),if_pos (by omega),jQ (n:=ns.length) hi (by omega)]
 ·refine Ev.step (fun k=>?_) h;simp only[me.U];rw[if_pos (by omega),if_pos (by omega),if_pos (by simpa using hp),jQ (n:=ns.length) hi (by omega)]
 ·refine Ev.ends (fun k=>?_);simp only[me.U];rw[if_neg (by omega)]
theorem MA:∀a b:List UInt8,(Op.bytesLess a b || a == b) = !(Op.bytesLess b a)
 |[],[]=>rfl
 |[],_::_=>rfl
 |_::_,[]=>rfl
 |a::x,b::y=>by
  have ih:=MA x y;simp only[Op.bytesLess];by_cases h1:a<b
  ·have h2:¬b<a:=fun h=>by simp only[UInt8.lt_iff_toNat_lt]at h1 h;omega
   have h3:¬(b=a):=fun h=>by subst h;simp only[UInt8.lt_iff_toNat_lt]at h1;omega
   simp[h1,h2,h3]
  ·by_cases h2:b<a
   ·have h3:¬(a=b):=fun h=>by subst h;simp only[UInt8.lt_iff_toNat_lt]at h2;omega
    simp[h1,h2,h3]
   ·have h3:a=b:=by
     apply UInt8.toNat_inj.1;simp only[UInt8.lt_iff_toNat_lt]at h1 h2;omega
    subst h3;simpa using ih
theorem TM (a:List UInt8):Op.bytesLess a a=false:=by
 have h:=MA a a;simp at h;cases hq:Op.bytesLess a a with
 |false=>rfl
 |true=>rw[hq]at h;simp at h
theorem C5 {a b:List UInt8} (h:Op.bytesLess a b=true):a≠b:=fun e=>by subst e;rw[TM]at h;simp at h
theorem TN {a b:List UInt8} (h:Op.bytesLess a b=false) (hne:a≠b):Op.bytesLess b a=true:=by
 have t:=MA a b;rw[h,beq_eq_false_iff_ne.2 hne]at t;simpa using t.symm
theorem C6:∀ {a b c:List UInt8},Op.bytesLess a b=true→Op.bytesLess b c=true→Op.bytesLess a c=true
 |_,_,[],_,h2=>by rename_i a b _;cases b<;>simp[Op.bytesLess]at h2
 |[],_,_::_,_,_=>rfl
 |a::x,[],c::z,h1,_=>by simp[Op.bytesLess]at h1
 |a::x,b::y,c::z,h1,h2=>by
  have ih:=@C6 x y z;simp only[Op.bytesLess]at h1 h2 ⊢;by_cases h3:a<b
  ·by_cases h4:b<c
   ·have:a<c:=by simp only[UInt8.lt_iff_toNat_lt] at *;omega
    simp[this]
   ·by_cases h5:b=c
    ·subst h5;simp[h3]
    ·simp[h4,h5]at h2
  ·by_cases h5:a=b
   ·subst h5;by_cases h4:a<c
    ·simp[h4]
    ·by_cases h6:a=c
     ·subst h6;simp[h3]at h1 h2 ⊢;exact ih h1 h2
     ·simp[h4,h6]at h2
   ·simp[h3,h5]at h1
abbrev sM (a b:ab):Prop:=bm.lt a b=true
theorem alR (xs:List ab):(bm.sort xs).Perm xs∧(bm.sort xs).Pairwise (fun a b=>bm.lt b a=false):=by
 unfold bm.sort;split
 ·obtain⟨⟨hsz,_,hp⟩,hs⟩:=Go.Sort.pdq_sorts bm.lt bm.swo xs.toArray 0 xs.toArray.size (Go.Lib.bitLen xs.toArray.size) true true (Nat.zero_le _) (Nat.le_refl _) (Or.inl rfl);generalize Go.Sort.pdq bm.lt xs.toArray 0 xs.toArray.size (Go.Lib.bitLen xs.toArray.size) true true=d' at hsz hp hs
  have e1:d'.extract 0 xs.toArray.size=d':=by rw[←hsz];exact Array.extract_size
  rw[e1,Array.extract_size]at hp;refine⟨hp,?_⟩;rw[List.pairwise_iff_getElem];intro i j hi hj hij;have hi':i<d'.size:=by simpa using hi
  have hj':j<d'.size:=by simpa using hj
  have:=hs i j (Nat.zero_le _) hij (by omega);rw[getElem!_pos d' j hj',getElem!_pos d' i hi']at this;simpa using this
 ·rename_i h;refine⟨List.Perm.refl _,?_⟩
  match xs,h with
  |[],_=>exact List.Pairwise.nil
  |[a],_=>exact List.pairwise_singleton _ _
  |a::b::r,h=>exact absurd (by simp) h
def iW (e:ab):List ab→List ab
 |[]=>[e]
 |x::r=>if bm.lt x e=true then x::iW e r else e::x::r
theorem Bs (e:ab):∀l,(iW e l).Perm (l++[e])
 |[]=>List.Perm.refl _
 |x::r=>by
  unfold iW;split
  ·exact(Bs e r).cons x
  ·exact(List.perm_append_singleton e (x::r)).symm
theorem FL {e y:ab} {l:List ab} (h:y ∈ iW e l):y=e∨y ∈ l:=by
 have:=(Bs e l).mem_iff.1 h;rw[List.mem_append,List.mem_singleton]at this;exact this.symm
theorem Yb (e:ab) (l:List ab):(iW e l).length=l.length+1:=by rw[(Bs e l).length_eq];simp
theorem Yc (e:ab):∀l,l.Pairwise sM→(∀x ∈ l,x.f0.toList≠e.f0.toList)→(iW e l).Pairwise sM
 |[],_,_=>List.pairwise_singleton _ _
 |x::r,h,hne=>by
  obtain⟨h1,h2⟩:=List.pairwise_cons.1 h;unfold iW;split
  ·rename_i hx;refine List.pairwise_cons.2 ⟨fun y hy=>?_,Yc e r h2 (fun y hy=>hne y (List.mem_cons_of_mem _ hy))⟩
   rcases FL hy with rfl|hy
   ·exact hx
   ·exact h1 y hy
  ·rename_i hx;have hex:bm.lt e x=true:=TN (show Op.bytesLess x.f0.toList e.f0.toList=false from Bool.eq_false_iff.2 hx) (hne x List.mem_cons_self);refine List.pairwise_cons.2 ⟨fun y hy=>?_,h⟩
   rcases List.mem_cons.1 hy with rfl|hy
   ·exact hex
   ·exact C6 hex (h1 y hy)
theorem YJ (l:List ab) (e:ab) (h:l.Pairwise sM) (hne:∀x ∈ l,x.f0.toList≠e.f0.toList):bm.sort (l++[e])=iW e l:=by
 obtain⟨hp,hs⟩:=alR (l++[e]);have hi:=Yc e l h hne;have Ji:(iW e l).Pairwise (fun a b=>a.f0.toList≠b.f0.toList):=hi.imp (fun h=>C5 h);have hpp:=hp.trans (Bs e l).symm;have akb:(bm.sort (l++[e])).Pairwise (fun a b=>a.f0.toList≠b.f0.toList):=(hpp.pairwise_iff (fun h=>h.symm)).2 Ji;have Om:(bm.sort (l++[e])).Pairwise sM:=(hs.and akb).imp (fun h=>TN h.1 (fun e=>h.2 e.symm));refine List.Perm.eq_of_pairwise (le:=sM) (fun a b _ _ h1 h2=>?_) Om hi hpp;have:=C6 h1 h2;rw[TM]at this;exact absurd this (by decide)
theorem UB {ds:List aj} {l:List ab} (h:iB ds l=true) (i:Nat) (hi:i<l.length) (h0:0<i):Op.bytesLess (aK l ((i-1:Nat):Int)).f0.toList (aK l (i:Int)).f0.toList=true:=by
 unfold iB at h;rw[yC,Bool.and_eq_true]at h;have hb:=Dw _ _ (by simpa using h.1) i (by omega) (by omega);unfold nr at hb;rw[Bool.or_eq_false_iff,Bool.or_eq_false_iff]at hb;have h2:=hb.1.2;simpa[h0] using h2
theorem HX {ds:List aj} {l:List ab} (h:iB ds l=true):l.Pairwise sM:=by
 have key:∀(d i:Nat),i+d+1<l.length→Op.bytesLess (aK l (i:Int)).f0.toList (aK l ((i+d+1:Nat):Int)).f0.toList=true:=by
  intro d
  induction d with
  |zero=>intro i hi;exact UB h (i+1) hi (by omega)
  |succ d ih=>intro i hi;exact C6 (ih i (by omega)) (UB h (i+(d+1)+1) hi (by omega))
 rw[List.pairwise_iff_getElem];intro i j hi hj hij;have:=key (j-i-1) i (by omega);rw[show i+(j-i-1)+1=j from by omega]at this;have e1:aK l (i:Int)=l[i]:=by unfold aK;simp[List.getD_eq_getElem?_getD,hi]
 have e2:aK l (j:Int)=l[j]:=by unfold aK;simp[List.getD_eq_getElem?_getD,hj]
 rw[e1,e2]at this;exact this
theorem Yw {l:List ab} {nm:ByteArray} (h:nameAt l nm<0):∀x ∈ l,x.f0.toList≠nm.toList:=by
 unfold nameAt at h
 rcases yD (fun i=>decide ((aK l (i:Int)).f0.toList=nm.toList)) l.length 0 with ⟨j,_,_,_,j4⟩|⟨j1,_⟩
 ·rw[j4]at h;omega
 ·intro x hx;obtain⟨i,hi,rfl⟩:=List.getElem_of_mem hx;have:=j1 i (by omega) (by omega);have e1:aK l (i:Int)=l[i]:=by unfold aK;simp[List.getD_eq_getElem?_getD,hi]
  rw[e1]at this;exact of_decide_eq_false this
def lE (e x:ab):Bool:=!decide (x.f0.toList=e.f0.toList)
def BT (e:ab):List ab→List ab
 |[]=>[e]
 |x::r=>if bm.lt x e=true then x::BT e r else e::(x::r).filter (lE e)
theorem ak5 (e:ab) (l:List ab) (h:∀y ∈ l,bm.lt y e=false):iW e l=e::l:=by
 cases l with
 |nil=>rfl
 |cons x r=>
  unfold iW;rw[if_neg (by rw[h x List.mem_cons_self];decide)]
theorem aal (e:ab):∀l,l.Pairwise sM→BT e l=iW e (l.filter (lE e))
 |[],_=>rfl
 |x::r,h=>by
  obtain⟨h1,h2⟩:=List.pairwise_cons.1 h;unfold BT;by_cases hx:bm.lt x e=true
  ·rw[if_pos hx,aal e r h2,List.filter_cons,if_pos (show lE e x=true by unfold lE;simpa using C5 hx)]
   conv=>rhs;unfold iW
   rw[if_pos hx]
  ·rw[if_neg hx,ak5];intro y hy
   rcases List.mem_cons.1 (List.mem_filter.1 hy).1 with rfl|hr
   ·exact Bool.eq_false_iff.2 hx
   ·refine Bool.eq_false_iff.2 (fun hye=>hx ?_);exact C6 (h1 y hr) hye
theorem alr (l:List ab) (nm:ByteArray) (n:Int) (hl:l.length≤1048576):∀(d i:Nat) (out:List ab) (b:Bool),i+d=l.length→out.length≤i+(if b=true then 1 else 0) →
 Ev (fun k=>dP.U k l out b (i:Int) nm n) (out++(if b=true then (l.drop i).filter (lE ⟨nm,n⟩) else BT (⟨nm,n⟩:ab) (l.drop i))):=by
 intro d
 induction d with
 |zero=>
  intro i out b hi ho;rw[List.drop_eq_nil_of_le (by omega)];refine Ev.ends (fun k=>?_);simp only[dP.U];rw[if_neg (by omega)];cases b
  ·rw[if_neg (by decide),if_pos (by simp at ho;omega),if_neg (by decide)];rfl
  ·simp
 |succ d ih=>
  intro i out b hi ho;have hil:i<l.length:=by omega
  have ed:l.drop i=l[i]::l.drop (i+1):=List.drop_eq_getElem_cons hil;have er:aK l (i:Int)=l[i]:=by unfold aK;simp[List.getD_eq_getElem?_getD,hil]
  have mz:∀(k:Nat) (o:List ab) (c:Bool),o.length≤i+2→dP.j2 (k+1) l o c (i:Int) nm n=dP.U k l (o++[l[i]].filter (lE ⟨nm,n⟩)) c ((i+1:Nat):Int) nm n:=by
   intro k o c cp;simp only[dP.j2];rw[if_pos (by omega),if_pos (by omega),er,jQ (n:=l.length) hil (by omega)];by_cases hn:l[i].f0.toList=nm.toList
   ·rw[if_pos hn,List.filter_cons,if_neg (show ¬lE ⟨nm,n⟩ l[i]=true by unfold lE;simpa using hn)];simp
   ·rw[if_neg hn,if_pos (by omega),List.filter_cons,if_pos (show lE ⟨nm,n⟩ l[i]=true by unfold lE;simpa using hn)];simp
  have hf:∀(o:List ab),(o++[l[i]].filter (lE ⟨nm,n⟩)).length≤o.length+1:=by
   intro o;rw[List.length_append];have:=List.length_filter_le (lE ⟨nm,n⟩) [l[i]];simp at this ⊢;omega
  have ef:(l[i]::l.drop (i+1)).filter (lE ⟨nm,n⟩)=[l[i]].filter (lE ⟨nm,n⟩)++(l.drop (i+1)).filter (lE ⟨nm,n⟩):=by rw[←List.filter_append];rfl
  cases b
  ·cases hc:bm.lt l[i] (⟨nm,n⟩:ab)
   ·
     obtain⟨K,h1⟩:=ih (i+1) (out++[(⟨nm,n⟩:ab)]++[l[i]].filter (lE ⟨nm,n⟩)) true (by omega) (by have:=hf (out++[(⟨nm,n⟩:ab)]);simp at ho this ⊢;omega);refine⟨K+3,fun k hk=>?_⟩;obtain⟨q,rfl⟩:∃q,k=q+3:=⟨k-3,by omega⟩;have jn:Op.bytesLess l[i].f0.toList nm.toList=false:=hc;have h2:=h1 q (by omega);simp only[dP.U,dP.j1];rw[if_pos (by omega),if_neg (by decide),if_pos (by omega),er,jn,if_pos (by decide),if_pos (by simp at ho;omega),mz q _ _ (by simp at ho ⊢;omega)];refine h2.trans ?_;rw[ed,if_pos rfl,if_neg (by decide)];unfold BT;rw[if_neg (by rw[hc];decide),ef];simp
   ·obtain⟨K,h1⟩:=ih (i+1) (out++[l[i]]) false (by omega) (by simp at ho ⊢;omega);refine⟨K+3,fun k hk=>?_⟩;obtain⟨q,rfl⟩:∃q,k=q+3:=⟨k-3,by omega⟩;have jn:Op.bytesLess l[i].f0.toList nm.toList=true:=hc;have h2:=h1 q (by omega);have e1:[l[i]].filter (lE ⟨nm,n⟩)=[l[i]]:=by rw[List.filter_cons,if_pos (show lE ⟨nm,n⟩ l[i]=true by unfold lE;simpa using C5 jn)];rfl
    simp only[dP.U,dP.j1];rw[if_pos (by omega),if_neg (by decide),if_pos (by omega),er,jn,if_neg (by decide),mz q _ _ (by simp at ho ⊢;omega),e1];refine h2.trans ?_;rw[ed,if_neg (by decide),if_neg (by decide)]
    conv=>rhs;unfold BT
    rw[if_pos hc];simp
  ·obtain⟨K,h1⟩:=ih (i+1) (out++[l[i]].filter (lE ⟨nm,n⟩)) true (by omega) (by have:=hf out;simp at ho this ⊢;omega);refine⟨K+3,fun k hk=>?_⟩;obtain⟨q,rfl⟩:∃q,k=q+3:=⟨k-3,by omega⟩;have h2:=h1 q (by omega);simp only[dP.U,dP.j1];rw[if_pos (by omega),if_pos trivial,if_neg (by decide),mz q _ _ (by simp at ho ⊢;omega)];refine h2.trans ?_;rw[if_pos rfl,if_pos trivial,ed,ef,List.append_assoc]
theorem KA (ns:List ab) (nm:ByteArray):fW ns nm=ns.filter (fun x=>!decide (x.f0.toList=nm.toList)):=by
 have hm:ns=(List.range ns.length).map (fun (i:Nat)=>aK ns (i:Int)):=by
  refine List.ext_getElem (by simp) (fun i h1 h2=>?_);rw[List.getElem_map,List.getElem_range];unfold aK;simp[List.getD_eq_getElem?_getD,h1]
 conv=>rhs;rw[hm,List.filter_map]
 unfold fW;rfl
theorem alq (l:List ab) (nm:ByteArray) (n:Int) (hl:l.length≤1048576) (hr:l.Pairwise sM):Ev (fun k=>dP.f k l nm n) (iW (⟨nm,n⟩:ab) (fW l nm)):=by
 refine Ev.congr (fun k=>?_) (show Ev _ _ from (by have:=alr l nm n hl l.length 0 [] false (by omega) (by simp);rw[List.drop_zero,if_neg (by decide),aal _ _ hr]at this;rw[KA];exact this));simp only[dP.f];rfl
theorem alu (l:List ab) (nm:ByteArray) (n:Int) (hl:l.length≤1048576) (hne:∀x ∈ l,x.f0.toList≠nm.toList):∀(d i:Nat) (out:List ab) (b:Bool),i+d=l.length→out.length≤i+(if b=true then 1 else 0) →
 Ev (fun k=>dP.U k l out b (i:Int) nm n) (out++(if b=true then l.drop i else iW (⟨nm,n⟩:ab) (l.drop i))):=by
 intro d
 induction d with
 |zero=>
  intro i out b hi ho;rw[List.drop_eq_nil_of_le (by omega)];refine Ev.ends (fun k=>?_);simp only[dP.U];rw[if_neg (by omega)];cases b
  ·rw[if_neg (by decide),if_pos (by simp at ho;omega),if_neg (by decide)];rfl
  ·simp
 |succ d ih=>
  intro i out b hi ho;have hil:i<l.length:=by omega
  have ed:l.drop i=l[i]::l.drop (i+1):=List.drop_eq_getElem_cons hil;have er:aK l (i:Int)=l[i]:=by unfold aK;simp[List.getD_eq_getElem?_getD,hil]
  have hn:=hne l[i] (List.getElem_mem hil)
  have mz:∀(k:Nat) (o:List ab) (c:Bool),o.length≤i+2→dP.j2 (k+1) l o c (i:Int) nm n=dP.U k l (o++[l[i]]) c ((i+1:Nat):Int) nm n:=by
   intro k o c cp;simp only[dP.j2];rw[if_pos (by omega),if_pos (by omega),er,if_neg hn,if_pos (by omega),jQ (n:=l.length) hil (by omega)]
  cases b
  ·cases hc:bm.lt l[i] (⟨nm,n⟩:ab)
   ·
     obtain⟨K,h1⟩:=ih (i+1) (out++[(⟨nm,n⟩:ab)]++[l[i]]) true (by omega) (by simp at ho ⊢;omega);refine⟨K+3,fun k hk=>?_⟩;obtain⟨q,rfl⟩:∃q,k=q+3:=⟨k-3,by omega⟩;have jn:Op.bytesLess l[i].f0.toList nm.toList=false:=hc;have h2:=h1 q (by omega);simp only[dP.U,dP.j1];rw[if_pos (by omega),if_neg (by decide),if_pos (by omega),er,jn,if_pos (by decide),if_pos (by simp at ho;omega),mz q _ _ (by simp at ho ⊢;omega)];refine h2.trans ?_;rw[ed,if_pos rfl,if_neg (by decide)];unfold iW;rw[if_neg (by rw[hc];decide)];simp
   ·obtain⟨K,h1⟩:=ih (i+1) (out++[l[i]]) false (by omega) (by simp at ho ⊢;omega);refine⟨K+3,fun k hk=>?_⟩;obtain⟨q,rfl⟩:∃q,k=q+3:=⟨k-3,by omega⟩;have jn:Op.bytesLess l[i].f0.toList nm.toList=true:=hc;have h2:=h1 q (by omega);simp only[dP.U,dP.j1];rw[if_pos (by omega),if_neg (by decide),if_pos (by omega),er,jn,if_neg (by decide),mz q _ _ (by simp at ho ⊢;omega)];refine h2.trans ?_;rw[ed,if_neg (by decide),if_neg (by decide)]
    conv=>rhs;unfold iW
    rw[if_pos hc];simp
  ·obtain⟨K,h1⟩:=ih (i+1) (out++[l[i]]) true (by omega) (by simp at ho ⊢;omega);refine⟨K+3,fun k hk=>?_⟩;obtain⟨q,rfl⟩:∃q,k=q+3:=⟨k-3,by omega⟩;have h2:=h1 q (by omega);simp only[dP.U,dP.j1];rw[if_pos (by omega),if_pos trivial,if_neg (by decide),mz q _ _ (by simp at ho ⊢;omega)];refine h2.trans ?_;rw[ed];simp
theorem als (l:List ab) (nm:ByteArray) (n:Int) (hl:l.length≤1048576) (hne:∀x ∈ l,x.f0.toList≠nm.toList):Ev (fun k=>dP.f k l nm n) (iW (⟨nm,n⟩:ab) l):=by
 refine Ev.congr (fun k=>?_) (alu l nm n hl hne l.length 0 [] false (by omega) (by simp));simp only[dP.f];rfl
def n4 (ds:List aj) (ns ss:List ab) (nx:Int) (nm:ByteArray):dG:=
 if dt (bO ds ns ss nx) ns nm=1 then (ds,ns,ss,nx,1) else if dt (bO ds ns ss nx) ns nm=0 then (ds,ns,ss,nx,3) else jl ds ns ss nx (ds++[(⟨nx,[],0⟩:aj)]) (iW (⟨nm,nx⟩:ab) ns) ss (wrap64 (nx+1))
theorem afj {ds:List aj} {ns ss:List ab} {nx:Int} {nm:ByteArray} (h1:dt (bO ds ns ss nx) ns nm≠1):bO ds ns ss nx=true∧fe nm=true:=by
 unfold dt at h1;split at h1
 ·rename_i h;rw[Bool.and_eq_true]at h;exact h
 ·exact absurd rfl h1
theorem afh {ds:List aj} {ns ss:List ab} {nx:Int} {nm:ByteArray} (h1:dt (bO ds ns ss nx) ns nm≠1) (h0:dt (bO ds ns ss nx) ns nm≠0):nameAt ns nm<0:=by
 unfold dt at h1 h0;split at h1
 ·rename_i h;rw[if_pos h]at h0;split at h0
  ·assumption
  ·exact absurd rfl h0
 ·exact absurd rfl h1
theorem Ut {ds:List aj} {ns ss:List ab} {nx:Int} {nm:ByteArray} (h:Small ds ns ss) (hok:bO ds ns ss nx=true) (hn:nm.size≤9223372036854775807):Small (ds++[(⟨nx,[],0⟩:aj)]) (iW (⟨nm,nx⟩:ab) ns) ss:=by
 obtain⟨p1,p2,p3⟩:=tK hok;have hf:=No p1 p2 p3;have hl:=HV p2;refine⟨by simp;omega,fun x hx=>?_,by rw[Yb];omega,h.h2,fun x hx=>?_,h.z2⟩
 ·rcases List.mem_append.1 hx with h1|h1
  ·exact h.hd x h1
  ·rw[List.mem_singleton.1 h1];exact Nat.zero_le _
 ·rcases FL hx with h1|h1
  ·rw[h1];exact hn
  ·exact h.z1 x h1
theorem Us {ds:List aj} {ns ss:List ab} {nx:Int} {nm:ByteArray} (hok:bO ds ns ss nx=true) {j m:Nat} (hm:m<ds.length) (hj:fK ds (aK ns (j:Int)).f1=(m:Int)) (hi:dN ns nm=(aK ns (j:Int)).f1):0<dN ns nm:=by
 obtain⟨m',m1,m2,m3⟩:=FJ (ds:=ds) (id:=(aK ns (j:Int)).f1) (by omega);have hp:=(Ju (tQ (tK hok).1 m' m1)).1;rw[hi,←m3];omega
theorem akH (ds:List aj) (ns ss:List ab) (nx:Int) (nm:ByteArray) (hn:nm.size≤9223372036854775807) (h:Small ds ns ss):Ev (fun k=>FD.f k ds ns ss nx nm) (n4 ds ns ss nx nm):=by
 unfold FD.f;refine Ev.bind' (Br (fb.f nm) ds ns ss nx [nm] false (if 0<dN ns nm then (ds,ns,ss,nx,3) else (ds++[(⟨nx,[],0⟩:aj)],iW (⟨nm,nx⟩:ab) ns,ss,wrap64 (nx+1),0)) h (by simp) (fun x hx=>by rw[List.mem_singleton.1 hx];exact hn) (fun h=>by simp at h) (fun hok hno _=>?_)) ?_
 ·unfold fb.f;refine⟨Ev.bind' (yN ds ns ss nx nm h.h1) ?_,?_⟩
  ·by_cases hid:0<dN ns nm
   ·simp only[hid,if_true];exact Ev.now _
   ·simp only[hid,if_false]
    have ha:nameAt ns nm<0:=by
     rcases vn hok nm with ⟨c1,c2⟩|⟨j,m,c1,c2,c3,c4,c5,c6,_⟩
     ·omega
     ·exact absurd (Us hok c5 c6 c3) hid
    have g0:ns.length<5864062014805:=by have:=h.h1;omega
    have g1:ds.length<3518437208883:=by have:=h.h0;omega
    have ep:bm.f ns nm nx=some (iW (⟨nm,nx⟩:ab) ns):=by
     unfold bm.f;rw[if_pos g0,YJ ns _ (HX (tK hok).2.1) (Yw ha)]
    simp only[ep,Option.bind_some,g1,if_true];exact Ev.now _
  ·intro h0;by_cases hid:0<dN ns nm
   ·rw[if_pos hid]at h0;exact absurd (show (3:Int)=0 from h0) (by decide)
   ·rw[if_neg hid];exact Ut h hok hn
 ·unfold yv zx n4 dt;rw[Bool.false_and,List.all_cons,List.all_nil,Bool.and_true];cases hok:bO ds ns ss nx
  ·exact Ev.now _
  ·cases hno:fe nm
   ·exact Ev.now _
   ·rcases vn hok nm with ⟨c1,c2⟩|⟨j,m,c1,c2,c3,c4,c5,c6,_⟩
    ·have e1:¬(0<dN ns nm):=by omega
     have e2:nameAt ns nm<0:=by omega
     simp only[e1,e2,if_true,if_false,Bool.true_and,Bool.false_eq_true];exact Ev.now _
    ·have e1:0<dN ns nm:=Us hok c5 c6 c3;have e2:¬nameAt ns nm<0:=by omega
     simp only[e1,e2,if_true,if_false,Bool.true_and,Bool.false_eq_true];exact Ev.now _
def j7 (ds:List aj) (m:Nat):List aj:=ds.set m (⟨(ae ds (m:Int)).f0,(ae ds (m:Int)).f1,((ae ds (m:Int)).f1.length:Int)⟩:aj)
theorem zD (ds:List aj) (m:Nat):(j7 ds m).length=ds.length:=by simp[j7]
theorem F4 (ds:List aj) (m i:Nat) (hi:i<ds.length):(ae (j7 ds m) (i:Int)).f0=(ae ds (i:Int)).f0∧(ae (j7 ds m) (i:Int)).f1=(ae ds (i:Int)).f1∧((ae (j7 ds m) (i:Int)).f2=(ae ds (i:Int)).f2∨(ae (j7 ds m) (i:Int)).f2=((ae ds (i:Int)).f1.length:Int)):=by
 have e:ae (j7 ds m) (i:Int)=if m=i then (⟨(ae ds (m:Int)).f0,(ae ds (m:Int)).f1,((ae ds (m:Int)).f1.length:Int)⟩:aj) else ae ds (i:Int):=by
  show (j7 ds m).getD i gV=_;unfold j7;rw[List.getD_eq_getElem?_getD,List.getElem?_set];by_cases h:m=i
  ·subst h;rw[if_pos rfl,if_pos hi,if_pos rfl];rfl
  ·rw[if_neg h,if_neg h];show _=ds.getD i gV;rw[List.getD_eq_getElem?_getD]
 rw[e];by_cases h:m=i
 ·subst h;rw[if_pos rfl];exact⟨rfl,rfl,.inr rfl⟩
 ·rw[if_neg h];exact⟨rfl,rfl,.inl rfl⟩
theorem amQ {ds:List aj} {ns ss:List ab} (h:Small ds ns ss) (m:Nat):Small (j7 ds m) ns ss:=by
 refine⟨by rw[zD];exact h.h0,fun x hx=>?_,h.h1,h.h2,h.z1,h.z2⟩;obtain⟨i,hi,rfl⟩:=List.getElem_of_mem hx;rw[zD]at hi;have e:=(F4 ds m i hi).2.1
 have e2:ae (j7 ds m) (i:Int)=(j7 ds m)[i]'(by rw[zD];exact hi):=by
  show (j7 ds m).getD i gV=_;rw[List.getD_eq_getElem?_getD,List.getElem?_eq_getElem (by rw[zD];exact hi)];rfl
 rw[e2]at e;rw[e];exact h.hd _ (qw hi)
theorem amO (ds:List aj) (m:Nat) (id:Int):fK (j7 ds m) id=fK ds id:=by
 unfold fK;rw[zD];exact H4 _ _ (fun j _ hj=>by rw[(F4 ds m j (by omega)).1])
theorem Zn (ds:List aj) (m:Nat):∀i,i≤ds.length→jC (j7 ds m) i=jC ds i
 |0,_=>rfl
 |i+1,h=>by
  unfold jC;rw[Zn ds m i (by omega),(F4 ds m i (by omega)).2.1]
theorem Zm (ds:List aj) (m:Nat) (l:List ab):iB (j7 ds m) l=iB ds l:=by
 unfold iB;exact H4 _ _ (fun j _ _=>by unfold nr;rw[amO])
theorem amN (ds:List aj) (m:Nat) (ns ss:List ab) (nx:Int) (h:oS ds ns ss nx=true):oS (j7 ds m) ns ss nx=true:=by
 have key:∀j,j<ds.length→jz (j7 ds m) ns ss nx j=false:=by
  intro j hj;have hb:=tQ h j hj;have fS:=hb;unfold jz at fS ⊢;rw[Bool.or_eq_false_iff,Bool.or_eq_false_iff,Bool.or_eq_false_iff]at fS ⊢;obtain⟨⟨⟨h1,h2⟩,h3⟩,h4⟩:=fS;obtain⟨e0,e1,e2⟩:=F4 ds m j hj;rw[e0,e1];refine⟨⟨⟨h1,?_⟩,?_⟩,h4⟩
  ·rcases e2 with e2|e2
   ·rw[e2];exact h2
   ·rw[e2];simp
  ·by_cases h0:0<j
   ·rw[(F4 ds m (j-1) (by omega)).1];exact h3
   ·simp[h0]
 unfold oS;rw[zD]
 rcases yD (jz (j7 ds m) ns ss nx) ds.length 0 with ⟨j,_,h2,h3,_⟩|⟨_,h2⟩
 ·rw[key j (by omega)]at h3;simp at h3
 ·rw[h2];rfl
theorem amM {ds:List aj} {ns ss:List ab} {nx:Int} (h:bO ds ns ss nx=true) (m:Nat):bO (j7 ds m) ns ss nx=true:=by
 unfold bO at h ⊢;rw[Bool.and_eq_true,Bool.and_eq_true,Bool.and_eq_true]at h ⊢;rw[zD,Zn ds m ds.length (Nat.le_refl _),Zm,Zm];exact⟨h.1,amN ds m ns ss nx h.2.1,h.2.2⟩
theorem alf {ds:List aj} {ns ss:List ab} {nx:Int} (h:bO ds ns ss nx=true):kept ds ns ss=ds:=by
 have hi:=(tK h).1;unfold kept;rw[List.filter_eq_self.2 (fun i hm=>?_),PU];have hb:=tQ hi i (by simpa using hm);unfold jz at hb;rw[Bool.or_eq_false_iff,Bool.and_eq_false_iff]at hb
 rcases hb.2 with h2|h2
 ·rw[Bool.not_eq_false']at h2;rw[h2,Bool.true_or]
 ·rw[Bool.not_eq_false']at h2;rw[h2,Bool.or_true]
def nJ (ds:List aj) (ns ss:List ab) (nx:Int) (nm:ByteArray):dG:=if dt (bO ds ns ss nx) ns nm=0 then (j7 ds (fK ds (dN ns nm)).toNat,ns,ss,nx,0) else (ds,ns,ss,nx,dt (bO ds ns ss nx) ns nm)
theorem MN {ds:List aj} {ns ss:List ab} {nx:Int} {nm:ByteArray} (hc:dt (bO ds ns ss nx) ns nm=0):bO ds ns ss nx=true∧fe nm=true∧∃j m,j<ns.length∧nameAt ns nm=(j:Int)∧dN ns nm=(aK ns (j:Int)).f1∧dN ns nm≠0∧m<ds.length∧fK ds (dN ns nm)=(m:Int):=by
 unfold dt at hc;cases hok:bO ds ns ss nx
 ·rw[hok]at hc;simp at hc
 rw[hok,Bool.true_and]at hc;cases hno:fe nm
 ·rw[hno]at hc;simp at hc
 rw[hno,if_pos rfl]at hc
 rcases vn hok nm with ⟨c1,_⟩|⟨j,m,c1,c2,c3,c4,c5,c6,_⟩
 ·rw[if_pos (by omega)]at hc;simp at hc
 ·exact⟨rfl,rfl,j,m,c1,c2,c3,c4,c5,by rw[c3];exact c6⟩
theorem amw (ds:List aj) (ns ss:List ab) (nx:Int) (nm:ByteArray) (hn:nm.size≤9223372036854775807) (h:Small ds ns ss):Ev (fun k=>kx.f k ds ns ss nx nm) (nJ ds ns ss nx nm):=by
 unfold kx.f nJ;refine Ev.bind' (h.Uo nx) ?_;refine Ev.bind' (OH ds ns ss nx nm hn h) ?_;by_cases hc:dt (bO ds ns ss nx) ns nm=0
 ·obtain⟨_,_,j,m,c1,c2,c3,c4,c5,c6⟩:=MN hc;simp only[hc,if_true];refine Ev.bind' (FR ns nm h.h1) ?_;have g1:(0≤nameAt ns nm)=True:=eq_true (by omega);have g2:(nameAt ns nm<(ns.length:Int))=True:=eq_true (by omega);simp only[g1,g2,if_true];refine Ev.bind' (JA ds ns ss nx h.h0 _) ?_;rw[c2,←c3,c6];have g3:(0≤(m:Int))=True:=eq_true (by omega);have g4:((m:Int)<(ds.length:Int))=True:=eq_true (by omega);simp only[g3,g4,if_true];exact Ev.now _
 ·simp only[hc,if_false];exact Ev.now _
theorem akL (ds:List aj) (ns ss:List ab) (nx:Int) (nm:ByteArray) (h:Small ds ns ss) (m:Nat) (hm:m<ds.length) (hi:fK ds (dN ns nm)=(m:Int)):Ev (fun k=>wv.f k ds ns ss nx nm) (m:Int):=by
 unfold wv.f;refine Ev.bind' (yN ds ns ss nx nm h.h1) ?_;refine Ev.bind' (Jv ds ns ss nx h.h0 (dN ns nm)) ?_;rw[hi];have g3:(0≤(m:Int))=True:=eq_true (by omega);have g4:((m:Int)<(ds.length:Int))=True:=eq_true (by omega);simp only[g3,g4,if_true];exact Ev.now _
theorem akQ (ds:List aj) (ns ss:List ab) (nx:Int) (nm:ByteArray) (hn:nm.size≤9223372036854775807) (h:Small ds ns ss):Ev (fun k=>FG.f k ds ns ss nx nm) (nJ ds ns ss nx nm):=by
 unfold FG.f;refine Ev.bind' (Br (lr.f nm) ds ns ss nx [nm] true (j7 ds (fK ds (dN ns nm)).toNat,ns,ss,nx,0) h (by simp) (fun x hx=>by rw[List.mem_singleton.1 hx];exact hn) (fun _=>by simp) (fun hok _ hid=>⟨?_,fun _=>amQ h _⟩)) ?_
 ·obtain⟨j,m,_,_,_,c5,c6⟩:=MP hok (show dN ns nm≠0 from hid rfl);unfold lr.f;rw[c6];exact Ev.bind' (akL ds ns ss nx nm h m c5 c6) (Ev.now _)
 ·rw[MQ];unfold nJ;by_cases hc:dt (bO ds ns ss nx) ns nm=0
  ·have hok:=(MN hc).1;have hO:=amM hok (fK ds (dN ns nm)).toNat;simp only[hc,if_true];unfold jl;simp only[alf hO,hO,if_true];exact Ev.now _
  ·simp only[hc,if_false];exact Ev.now _
def oX (ds:List aj) (ns ss:List ab) (nx:Int):dG:=if bO ds ns ss nx=true then jl ds ns ss nx ds ns ns nx else (ds,ns,ss,nx,1)
theorem akP (ds:List aj) (ns ss:List ab) (nx:Int) (h:Small ds ns ss):Ev (fun k=>FH.f k ds ns ss nx) (oX ds ns ss nx):=by
 have hS:Small ds ns ns:=⟨h.h0,h.hd,h.h1,h.h1,h.z1,h.z1⟩;unfold FH.f;refine Ev.bind' (Br pw.f ds ns ss nx [] false (ds,ns,ns,nx,0) h (by simp) (fun _ hm=>by simp at hm) (fun h=>by simp at h) (fun _ _ _=>⟨?_,fun _=>hS⟩)) ?_
 ·refine Ev.congr (fun k=>?_) (Ev.now (ds,ns,ns,nx,0));unfold pw.f pw.g;rw[if_pos (by have:=h.h1;simp only[List.length_nil];omega)];rfl
 ·unfold yv zx oX;simp only[Bool.false_and,Bool.false_eq_true,if_false,List.all_nil,if_true];exact Ev.now _
def renamed (ns:List ab) (a b:ByteArray):List ab:=iW (⟨b,dN ns a⟩:ab) (fW (fW ns a) b)
def oV (ds:List aj) (ns ss:List ab) (nx:Int) (a b:ByteArray):dG:=
 if dt (bO ds ns ss nx) ns a=1∨fe b=false then (ds,ns,ss,nx,1) else if dt (bO ds ns ss nx) ns a=0 then (if a.toList=b.toList then (ds,ns,ss,nx,0) else jl ds ns ss nx ds (renamed ns a b) ss nx) else (ds,ns,ss,nx,dt (bO ds ns ss nx) ns a)
theorem QM {ns:List ab} (nm:ByteArray) (h:ns.Pairwise sM):(fW ns nm).Pairwise sM:=by rw[KA];exact h.filter _
theorem aam (ns:List ab) (nm:ByteArray):∀x ∈ fW ns nm,x.f0.toList≠nm.toList:=by
 intro x hx;rw[KA]at hx;simpa using (List.mem_filter.1 hx).2
theorem alh {ds:List aj} {ns ss:List ab} {nx:Int} (h:oS ds ns ss nx=true):kept ds ns ss=ds:=by
 have hm:(List.range ds.length).map (fun (i:Nat)=>ae ds (i:Int))=ds:=by
  refine List.ext_getElem (by simp) (fun i h1 h2=>?_);rw[List.getElem_map,List.getElem_range];unfold ae;simp[List.getD_eq_getElem?_getD,h2]
 unfold kept;rw[List.filter_eq_self.2 (fun i hi=>?_),hm];have hb:=tQ h i (by simpa using hi);unfold jz at hb;simp only[Bool.or_eq_false_iff,Bool.and_eq_false_iff,Bool.not_eq_false']at hb;rw[Bool.or_eq_true]
 rcases hb.2 with h1|h1
 ·exact .inl h1
 ·exact .inr h1
theorem aff {ds:List aj} {ns ss:List ab} {nx:Int} {a:ByteArray} (h:dt (bO ds ns ss nx) ns a=0):bO ds ns ss nx=true∧¬nameAt ns a<0:=by
 unfold dt at h;split at h
 ·rename_i h1;rw[Bool.and_eq_true]at h1;split at h
  ·exact absurd h (by decide)
  ·exact⟨h1.1,by assumption⟩
 ·exact absurd h (by decide)
theorem YW {ds:List aj} {ns ss:List ab} {nx:Int} {a b:ByteArray} (h:Small ds ns ss) (hok:bO ds ns ss nx=true) (hn:b.size≤9223372036854775807):Small ds (renamed ns a b) ss:=by
 obtain⟨p1,p2,p3⟩:=tK hok;have hl:=HV p2;refine⟨h.h0,h.hd,?_,h.h2,fun x hx=>?_,h.z2⟩
 ·unfold renamed;rw[Yb];have h1:=xw (fW ns a) b;have h2:=xw ns a;omega
 ·rcases FL hx with h1|h1
  ·rw[h1];exact hn
  ·exact h.z1 x (BU (BU h1))
def oU (ds:List aj) (ns ss:List ab) (nx:Int) (nm:ByteArray):dG:=if dt (bO ds ns ss nx) ns nm=0 then jl ds ns ss nx ds (fW ns nm) ss nx else (ds,ns,ss,nx,dt (bO ds ns ss nx) ns nm)
def Au (ds:List aj) (m:Nat) (b:List Int):List aj:=ds.set m (⟨(ae ds (m:Int)).f0,(ae ds (m:Int)).f1++b,(ae ds (m:Int)).f2⟩:aj)
theorem TE {ds:List aj} {ns ss:List ab} (h:Small ds ns ss) (hd:∀x ∈ ds,x.f1.length≤1048576) (m:Nat) (b:List Int) (hb:b.length≤1048600) (hm:m<ds.length):Small (Au ds m b) ns ss:=by
 refine⟨by unfold Au;rw[List.length_set];exact h.h0,fun x hx=>?_,h.h1,h.h2,h.z1,h.z2⟩
 rcases List.mem_or_eq_of_mem_set hx with h1|h1
 ·exact h.hd x h1
 ·rw[h1];show ((ae ds (m:Int)).f1++b).length≤4194304;rw[List.length_append];have:=hd _ (qw hm);omega
def kg (ds:List aj) (ns ss:List ab) (nx:Int) (nm:ByteArray) (b:List Int):dG:=if dt (bO ds ns ss nx) ns nm=0 then jl ds ns ss nx (Au ds (fK ds (dN ns nm)).toNat b) ns ss nx else (ds,ns,ss,nx,dt (bO ds ns ss nx) ns nm)
theorem afi {ds:List aj} {ns ss:List ab} {nx:Int} {nm:ByteArray} (hc:dt (bO ds ns ss nx) ns nm=0):bO ds ns ss nx=true∧dN ns nm≠0:=by
 unfold dt at hc;cases hok:bO ds ns ss nx
 ·rw[hok]at hc;simp at hc
 ·refine⟨rfl,fun hid=>?_⟩
  rcases vn hok nm with ⟨c1,c2⟩|⟨j,m,c1,c2,c3,c4,_⟩
  ·rw[hok,Bool.true_and,if_pos (show nameAt ns nm<0 by omega)]at hc;split at hc<;>simp at hc
  ·exact c4 hid
theorem Zi (ds:List aj) (ns ss:List ab) (nx:Int) (nm:ByteArray) (b:List Int) (hn:nm.size≤9223372036854775807) (h:Small ds ns ss) (hd:∀x ∈ ds,x.f1.length≤1048576) (hb:b.length≤1048600):Ev (fun k=>js.f k ds ns ss nx nm b) (kg ds ns ss nx nm b):=by
 unfold js.f kg;refine Ev.bind' (h.Uo nx) ?_;refine Ev.bind' (OH ds ns ss nx nm hn h) ?_;by_cases hc:dt (bO ds ns ss nx) ns nm=0
 ·obtain⟨hok,hid⟩:=afi hc;obtain⟨j,m,c1,c2,c3,c5,c6⟩:=MP hok hid;simp only[hc,if_true];refine Ev.bind' (FR ns nm h.h1) ?_;have g1:(0≤nameAt ns nm)=True:=eq_true (by omega);have g2:(nameAt ns nm<(ns.length:Int))=True:=eq_true (by omega);simp only[g1,g2,if_true];refine Ev.bind' (JA ds ns ss nx h.h0 _) ?_;rw[c2,←c3,c6];have g3:(0≤(m:Int))=True:=eq_true (by omega);have g4:((m:Int)<(ds.length:Int))=True:=eq_true (by omega);have g5:((ae ds (m:Int)).f1.length+b.length<140737488355328)=True:=eq_true (by have:=hd _ (qw c5);omega);simp only[g3,g4,g5,if_true];exact Ev.bind' (amr ds ns ss nx _ ns ss nx h (TE h hd m b hb c5)) (Ev.now _)
 ·simp only[hc,if_false];exact Ev.now _
theorem akK (ds:List aj) (ns ss:List ab) (nx:Int) (nm:ByteArray) (h:Small ds ns ss) (m:Nat) (hm:m<ds.length) (hi:fK ds (dN ns nm)=(m:Int)):Ev (fun k=>HM.f k ds ns ss nx nm) (m:Int):=by
 unfold HM.f;refine Ev.bind' (yN ds ns ss nx nm h.h1) ?_;refine Ev.bind' (Jv ds ns ss nx h.h0 (dN ns nm)) ?_;rw[hi];have g3:(0≤(m:Int))=True:=eq_true (by omega);have g4:((m:Int)<(ds.length:Int))=True:=eq_true (by omega);simp only[g3,g4,if_true];exact Ev.now _
theorem X0 (ds:List aj) (ns ss:List ab) (nx:Int) (nm:ByteArray) (b:List Int) (hn:nm.size≤9223372036854775807) (h:Small ds ns ss) (hd:∀x ∈ ds,x.f1.length≤1048576) (hb:b.length≤1048600):Ev (fun k=>uW.f k ds ns ss nx nm b) (kg ds ns ss nx nm b):=by
 unfold uW.f;refine Ev.bind' (Br (iT.f nm b) ds ns ss nx [nm] true (Au ds (fK ds (dN ns nm)).toNat b,ns,ss,nx,0) h (by simp) (fun x hx=>by rw[List.mem_singleton.1 hx];exact hn) (fun _=>by simp) (fun hok _ hid=>?_)) ?_
 ·obtain⟨j,m,_,_,_,c5,c6⟩:=MP hok (show dN ns nm≠0 from hid rfl);rw[c6];refine⟨?_,fun _=>TE h hd m b hb c5⟩;unfold iT.f;refine Ev.bind' (akK ds ns ss nx nm h m c5 c6) ?_;have g5:((ae ds (m:Int)).f1.length+b.length<140737488355328)=True:=eq_true (by have:=hd _ (qw c5);omega);simp only[g5,if_true];exact Ev.now _
 ·rw[MQ];unfold kg;simp only[if_true];exact Ev.now _
theorem amj {β γ:Type} (L:Nat→List β→Nat→Option γ) (l:List β) (z:β) (G:β→β) (fin:List β→γ)
 (hs:∀(i:Nat) (out:List β) (r:γ),i<l.length→out.length=l.length→out.getD i z=l.getD i z→Ev (fun k=>L k (out.set i (G (l.getD i z))) (i+1)) r→Ev (fun k=>L k out i) r)
 (he:∀out:List β,out.length=l.length→Ev (fun k=>L k out l.length) (fin out)):Ev (fun k=>L k l 0) (fin (l.map G)):=by
 have key:∀(d i:Nat) (out:List β),i+d=l.length→out.length=l.length→out.take i=(l.map G).take i→(∀j,i≤j→out.getD j z=l.getD j z)→Ev (fun k=>L k out i) (fin (l.map G)):=by
  intro d
  induction d with
  |zero=>
   intro i out hi hl ht _;have hin:i=l.length:=by omega
   subst hin
   have e:out=l.map G:=by
    rw[List.take_of_length_le (by omega),List.take_of_length_le (by simp)]at ht;exact ht
   rw[←e];exact he out hl
  |succ d ih=>
   intro i out hi hl ht hg;refine hs i out _ (by omega) hl (hg i (Nat.le_refl _)) (ih (i+1) _ (by omega) (by simp[hl]) ?_ (fun j hj=>?_))
   ·rw[amV _ _ _ (by omega),ht,List.take_succ_eq_append_getElem (by simp;omega),List.getElem_map,List.getD_eq_getElem?_getD,List.getElem?_eq_getElem (by omega)];rfl
   ·rw[←hg j (by omega),List.getD_eq_getElem?_getD,List.getElem?_set_ne (by omega),List.getD_eq_getElem?_getD]
 exact key l.length 0 l (by omega) rfl rfl (fun _ _=>rfl)
def nu (keep:Int) (x:aj):aj:=
 if keep<(x.f1.length:Int)-x.f2 then (⟨x.f0,x.f1.take (x.f2+keep).toNat,x.f2+keep⟩:aj) else (⟨x.f0,x.f1,(x.f1.length:Int)⟩:aj)
def uQ (ok:Bool) (ds:List aj) (ns ss:List ab) (nx:Int) (keep:Int):List aj × List ab × List ab × Int:=
 if ok=true∧0≤keep then (((List.range ds.length).filter (fun (i:Nat)=>named ss (ae ds (i:Int)).f0)).map (fun (i:Nat)=>nu keep (ae ds (i:Int))),ss,ss,nx) else (ds,ns,ss,nx)
def US (x:aj):Prop:=0≤x.f2∧x.f2≤(x.f1.length:Int)∧x.f1.length≤1048576
theorem alo (ds:List aj) (ss:List ab) (nx:Int) (h0:ds.length≤1048576) (h2:ss.length≤1048576):Ev (fun k=>tY.f k ds ss ss nx) (((List.range ds.length).filter (fun (i:Nat)=>named ss (ae ds (i:Int)).f0)).map (fun (i:Nat)=>ae ds (i:Int)),ss,ss,nx):=⟨0,fun k _=>by
 show tY.f k ds ss ss nx=_;unfold tY.f kept;rw[if_pos ⟨h0,h2,h2⟩];simp only[Bool.or_self]⟩
theorem ams (ds:List aj) (ns ss:List ab) (nx keep:Int) (h0:ds.length≤1048576) (hd:∀x ∈ ds,x.f1.length≤1048576) (h1:ns.length≤1048576) (h2:ss.length≤1048576) (z1:∀e ∈ ns,e.f0.size≤9223372036854775807) (z2:∀e ∈ ss,e.f0.size≤9223372036854775807) (hk:keep≤9223372036854775807):Ev (fun k=>dF.f k ds ns ss nx keep) (uQ (bO ds ns ss nx) ds ns ss nx keep):=by
 have copy:Ev (fun k=>dF.j0 k keep true ds ns ss nx) (ds,ns,ss,nx):=by
  refine Ev.ends (fun k=>?_);simp only[dF.j0];rw[if_pos trivial]
 refine Ev.bind' (OI ds ns ss nx h0 (fun x hx=>Nat.le_trans (hd x hx) (by decide)) h1 h2) ?_;refine Ev.bind' (P9 ds ns ss nx h0 (fun x hx=>Nat.le_trans (hd x hx) (by decide)) h1 h2 z1 z2) ?_;unfold uQ;cases hok:bO ds ns ss nx
 ·rw[if_neg (by simp)];exact Ev.congr (fun k=>by rw[if_neg (by decide)]) copy
 by_cases hneg:keep<0
 ·rw[if_neg (fun h=>by have:=h.2;omega)];exact Ev.congr (fun k=>by rw[if_pos rfl,decide_eq_true hneg]) copy
 rw[if_pos ⟨rfl,by omega⟩];have hino:=(tK hok).1;have hgood:∀i,i<ds.length→US (ae ds (i:Int)):=fun i hi=>⟨(Ju (tQ hino i hi)).2.1,(Ju (tQ hino i hi)).2.2,hd _ (qw hi)⟩
 obtain⟨K,e⟩:=alo ds ss nx h0 h2;dsimp only at e
 have hlk:(((List.range ds.length).filter (fun (i:Nat)=>named ss (ae ds (i:Int)).f0)).map (fun (i:Nat)=>ae ds (i:Int))).length≤1048576:=by
  rw[List.length_map];exact Nat.le_trans (List.length_filter_le _ _) (by simpa using h0)
 have hgk:∀x ∈ (((List.range ds.length).filter (fun (i:Nat)=>named ss (ae ds (i:Int)).f0)).map (fun (i:Nat)=>ae ds (i:Int))),US x:=by
  intro x hx;obtain⟨i,hi,rfl⟩:=List.mem_map.1 hx;exact hgood i (by simpa using (List.mem_filter.1 hi).1)
 have hcomp:((List.range ds.length).filter (fun (i:Nat)=>named ss (ae ds (i:Int)).f0)).map (fun (i:Nat)=>nu keep (ae ds (i:Int)))=(((List.range ds.length).filter (fun (i:Nat)=>named ss (ae ds (i:Int)).f0)).map (fun (i:Nat)=>ae ds (i:Int))).map (nu keep):=by
  rw[List.map_map];rfl
 rw[hcomp];generalize (((List.range ds.length).filter (fun (i:Nat)=>named ss (ae ds (i:Int)).f0)).map (fun (i:Nat)=>ae ds (i:Int)))=l at e hlk hgk
 have loop:=amj (fun k out i=>dF.U k keep (i:Int) out ss ss nx) l gV (nu keep) (fun out=>(out,ss,ss,nx)) (fun i out r hi ho hg h=>?_) (fun out ho=>?_)
 ·refine Ev.round (f:=fun k=>dF.U k keep 0 l ss ss nx) ⟨K,fun k tP=>?_⟩ loop;rw[if_pos rfl,decide_eq_false hneg];simp only[dF.j0,Option.bind_some,List.nil_append,List.length_nil];rw[if_neg (by decide),if_pos (by omega),e k tP,Option.bind_some]
 ·have hrd:ae out (i:Int)=ae l (i:Int):=hg;obtain⟨g1,g2,g3⟩:=hgk _ (qw hi);have hw:wrap64 (((ae l (i:Int)).f1.length:Int)-(ae l (i:Int)).f2)=((ae l (i:Int)).f1.length:Int)-(ae l (i:Int)).f2:=dO (by omega) (by omega);have hgl:l.getD i gV=ae l (i:Int):=rfl;rw[hgl]at h;refine Ev.step (fun k=>?_) h;simp only[dF.U,hrd,hw,Option.bind_some,Int.toNat_natCast];rw[if_pos (by omega),if_pos (by omega)];by_cases hc:keep<((ae l (i:Int)).f1.length:Int)-(ae l (i:Int)).f2
  ·have hf:nu keep (ae l (i:Int))=(⟨(ae l (i:Int)).f0,(ae l (i:Int)).f1.take ((ae l (i:Int)).f2+keep).toNat,(ae l (i:Int)).f2+keep⟩:aj):=by unfold nu;rw[if_pos hc]
   have hset:∀y:aj,ae (out.set i y) (i:Int)=y:=by
    intro y;show (out.set i y).getD i gV=y;rw[List.getD_eq_getElem?_getD,List.getElem?_set_self (by omega)];rfl
   rw[if_pos hc,dO (by omega) (by omega),if_pos (by omega),if_pos (by omega),hset,List.set_set,hf,jQ (n:=l.length) hi (by omega)];congr 3;rw[List.length_take];omega
  ·have hf:nu keep (ae l (i:Int))=(⟨(ae l (i:Int)).f0,(ae l (i:Int)).f1,((ae l (i:Int)).f1.length:Int)⟩:aj):=by unfold nu;rw[if_neg hc]
   rw[if_neg hc,hf,jQ (n:=l.length) hi (by omega)]
 ·refine Ev.ends (fun k=>?_);simp only[dF.U];rw[if_neg (by omega)]
def jx (ok:Bool) (ds:List aj) (ns:List ab) (nm:ByteArray):List Int × Bool:=
 if ok=true∧0≤nameAt ns nm then ((ae ds (fK ds (aK ns (nameAt ns nm)).f1)).f1,true) else ([],false)
theorem TQ (ok:Bool) (ds:List aj) (ns:List ab) (nm:ByteArray) (hd:∀x ∈ ds,x.f1.length≤1048576):(jx ok ds ns nm).1.length≤1048576:=by
 unfold jx;split
 ·show (ae ds _).f1.length≤1048576;unfold ae;rw[List.getD_eq_getElem?_getD];cases hg:ds[(fK ds (aK ns (nameAt ns nm)).f1).toNat]? with
  |none=>exact Nat.zero_le _
  |some y=>exact hd y (List.mem_of_getElem? hg)
 ·exact Nat.zero_le _
theorem akG (ds:List aj) (ns ss:List ab) (nx:Int) (nm:ByteArray) (h0:ds.length≤1048576) (hd:∀x ∈ ds,x.f1.length≤1048576) (h1:ns.length≤1048576) (h2:ss.length≤1048576) (z1:∀e ∈ ns,e.f0.size≤9223372036854775807) (z2:∀e ∈ ss,e.f0.size≤9223372036854775807):Ev (fun k=>iV.f k ds ns ss nx nm) (jx (bO ds ns ss nx) ds ns nm):=by
 obtain⟨K1,e1⟩:=X1 ds ns ss nx h0 (fun x hx=>Nat.le_trans (hd x hx) (by decide)) h1 h2 z1 z2;obtain⟨K3,e3⟩:=yN ds ns ss nx nm h1;obtain⟨K4,e4⟩:=Jv ds ns ss nx h0 (dN ns nm);dsimp only at e1 e3 e4;refine⟨K1+K3+K4+1,fun k hk=>?_⟩;obtain⟨q,rfl⟩:∃q,k=q+1:=⟨k-1,by omega⟩;simp only[iV.f];rw[e3 _ (by omega),Option.bind_some,e4 _ (by omega),Option.bind_some,e1 _ (by omega),Option.bind_some];unfold jx;cases hok:bO ds ns ss nx
 ·rw[if_neg (by decide),if_neg (by simp)];simp only[iV.j0];rfl
 rw[if_pos rfl,Option.bind_some]
 rcases vn hok nm with ⟨c1,c2⟩|⟨j,m,c1,c2,c3,c4,c5,c6,_⟩
 ·rw[if_pos c2,if_neg (by omega)];simp only[iV.j0];rfl
 ·rw[if_neg c4,if_pos (show true=true∧0≤nameAt ns nm from ⟨rfl,by omega⟩),c3,c6,c2,c6];have hm:=hd _ (qw c5);simp only[iV.j0,wU.f];rw[if_neg (by simp),if_pos (by omega),if_pos (by omega),if_pos (by simp only[List.length_nil];omega),List.nil_append];rfl
theorem amq (ds:List aj) (ns ss:List ab) (nx:Int) (nm:ByteArray) (hn:nm.size≤9223372036854775807) (h0:ds.length≤1048576) (hd:∀x ∈ ds,x.f1.length≤1048576) (h1:ns.length≤1048576) (h2:ss.length≤1048576) (z1:∀e ∈ ns,e.f0.size≤9223372036854775807) (z2:∀e ∈ ss,e.f0.size≤9223372036854775807):Ev (fun k=>pN.f k ds ns ss nx nm) (jx (bO ds ns ss nx) ds ns nm):=by
 obtain⟨K1,e1⟩:=P9 ds ns ss nx h0 (fun x hx=>Nat.le_trans (hd x hx) (by decide)) h1 h2 z1 z2;obtain⟨K2,e2⟩:=Qc nm hn;obtain⟨K3,e3⟩:=FR ns nm h1;obtain⟨K4,e4⟩:=JA ds ns ss nx h0 (aK ns (nameAt ns nm)).f1;dsimp only at e1 e2 e3 e4;refine⟨K1+K2+K3+K4+1,fun k hk=>?_⟩;obtain⟨q,rfl⟩:∃q,k=q+1:=⟨k-1,by omega⟩;simp only[pN.f,gJ.f];rw[e1 _ (by omega),Option.bind_some];unfold jx;cases hok:bO ds ns ss nx
 ·rw[if_neg (by decide),if_neg (by simp)];simp only[gJ.j0];rfl
 rw[if_pos rfl,e2 _ (by omega),Option.bind_some]
 rcases vn hok nm with ⟨c1,_⟩|⟨j,m,c1,c2,_,_,c3,c4,c5⟩
 ·rw[if_neg (by omega)];simp only[gJ.j0];cases fe nm
  ·rfl
  ·rw[if_neg (by decide),e3 _ (by omega),Option.bind_some,if_pos (by omega)];rfl
 ·rw[c5,if_pos (show true=true∧0≤nameAt ns nm from ⟨rfl,by omega⟩)];simp only[gJ.j0];rw[if_neg (by decide),e3 _ (by omega),Option.bind_some,if_neg (by omega),Option.bind_some,if_pos rfl,e3 _ (by omega),Option.bind_some,if_pos (by omega),if_pos (by omega),e4 _ (by omega),Option.bind_some,Option.bind_some];rw[c2,c4];have hm:=hd _ (qw c3);rw[if_pos (by omega),if_pos (by omega),if_pos (by simp only[List.length_nil];omega),List.nil_append]
theorem OB (ns:List ab) (nm:ByteArray) (h:ns.length≤1048576):Ev (fun k=>iU.f k ns nm) (fW ns nm):=by
 refine Ev.congr (fun k=>?_) (H3 (fun k out i=>iU.U k nm out ns (ns.length:Int) (i:Int)) ns.length _ _ (fun out=>out) (fun i out r hi ho hp h=>?_) (fun i out r hi ho hp h=>?_) (fun out ho=>?_))
 ·simp only[iU.f];rfl
 ·refine Ev.step (fun k=>?_) h;simp only[iU.U];rw[if_pos (by omega),if_pos (by omega),if_pos (by omega),if_neg (by simpa using hp),if_pos (by omega),jQ (n:=ns.length) hi (by omega)]
 ·refine Ev.step (fun k=>?_) h;simp only[iU.U];rw[if_pos (by omega),if_pos (by omega),if_pos (by omega),if_pos (by simpa using hp),jQ (n:=ns.length) hi (by omega)]
 ·refine Ev.ends (fun k=>?_);simp only[iU.U];rw[if_neg (by omega)]
theorem akN (ds:List aj) (ns ss:List ab) (nx:Int) (nm:ByteArray) (hn:nm.size≤9223372036854775807) (h:Small ds ns ss):Ev (fun k=>FE.f k ds ns ss nx nm) (oU ds ns ss nx nm):=by
 unfold FE.f;refine Ev.bind' (Br (sv.f nm) ds ns ss nx [nm] true (ds,fW ns nm,ss,nx,0) h (by simp) (fun x hx=>by rw[List.mem_singleton.1 hx];exact hn) (fun _=>by simp) (fun _ _ _=>⟨?_,fun _=>h.fW nm⟩)) ?_
 ·unfold sv.f;exact Ev.bind' (OB ns nm h.h1) (Ev.now _)
 ·rw[MQ];unfold oU;simp only[if_true];exact Ev.now _
theorem akO (ds:List aj) (ns ss:List ab) (nx:Int) (a b:ByteArray) (ha:a.size≤9223372036854775807) (hb:b.size≤9223372036854775807) (h:Small ds ns ss):Ev (fun k=>FF.f k ds ns ss nx a b) (oV ds ns ss nx a b):=by
 unfold FF.f;refine Ev.bind' (Br (kj.f a b) ds ns ss nx [a,b] true (if a.toList=b.toList then (ds,ns,ss,nx,0) else (ds,renamed ns a b,ss,nx,0)) h (by simp) (fun x hx=>?_) (fun _=>by simp) (fun hok hno _=>?_)) ?_
 ·rcases List.mem_cons.1 hx with rfl|hx
  ·exact ha
  ·rw[List.mem_singleton.1 hx];exact hb
 ·unfold kj.f;by_cases hab:a.toList=b.toList
  ·simp only[hab,if_true];exact⟨Ev.now _,fun _=>h⟩
  ·simp only[hab,if_false];refine⟨?_,fun _=>YW h hok hb⟩;have hr:=HX (tK hok).2.1;refine Ev.bind' (yN ds ns ss nx a h.h1) ?_;refine Ev.bind' (OB ns a h.h1) ?_;refine Ev.bind' (OB (fW ns a) b (Nat.le_trans (xw ns a) h.h1)) ?_;have l1:=xw (fW ns a) b;have l2:=xw ns a;have g0:(fW (fW ns a) b).length<5864062014805:=by have:=h.h1;omega
   have ep:bm.f (fW (fW ns a) b) b (dN ns a)=some (renamed ns a b):=by
    unfold bm.f renamed;rw[if_pos g0,YJ _ _ (QM b (QM a hr)) (aam _ b)]
   simp only[ep,Option.bind_some];exact Ev.now _
 ·have e0:kv ByteArray.empty [a,b] 0=a:=rfl;unfold yv zx oV dt;rw[e0,List.all_cons,List.all_cons,List.all_nil,Bool.and_true,Bool.true_and];cases hok:bO ds ns ss nx
  ·simp only[Bool.false_and,Bool.false_eq_true,if_false,true_or,if_true];exact Ev.now _
  simp only[Bool.true_and,if_true];cases hno:fe a
  ·simp only[Bool.false_and,Bool.false_eq_true,if_false,true_or,if_true];exact Ev.now _
  simp only[Bool.true_and,if_true];cases hnb:fe b
  ·simp only[Bool.false_eq_true,if_false,or_true,if_true];exact Ev.now _
  simp only[if_true,Bool.true_eq_false,or_false]
  rcases vn hok a with ⟨c1,c2⟩|⟨j,m,c1,c2,c3,c4,c5,c6,_⟩
  ·have e2:nameAt ns a<0:=by omega
   simp only[e2,c2,if_true,BEq.rfl,show ¬((2:Int)=1) by decide,show ¬((2:Int)=0) by decide,if_false];exact Ev.now _
  ·have e2:¬nameAt ns a<0:=by omega
   simp only[e2,if_false,beq_eq_false_iff_ne.2 c4,Bool.false_eq_true,show ¬((0:Int)=1) by decide,if_true];by_cases hab:a.toList=b.toList
   ·simp only[hab,if_true]
    have hk:jl ds ns ss nx ds ns ss nx=(ds,ns,ss,nx,0):=by
     unfold jl;rw[alh (tK hok).1,if_pos hok]
    rw[hk];exact Ev.now _
   ·simp only[hab,if_false,if_true];exact Ev.now _
end Go.Proofs.YtingkpnoiekliaaGreat.MZ
