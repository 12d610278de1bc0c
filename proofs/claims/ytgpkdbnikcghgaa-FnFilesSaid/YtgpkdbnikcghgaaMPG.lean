/- A disk that is right, told of lists: what each change leaves. -/
import Derived.Test.YtgpkdbnikcghgaaMPD
set_option linter.unusedVariables false
set_option linter.unusedSimpArgs false
namespace Go.Proofs.Ytgpkdbnikcghgaa.MPD
open Go.RowKit Go.Proofs.Ytgpkdbnikcghgaa.MD Go.Proofs.YtgpkdbnikcghgaaW.PrintWords Go.Proofs.YtgpkdbnikcghgaaW.PrintLast Go.Proofs.YtgpkdbnikcghgaaW.PrintMore
abbrev eh:=aj
abbrev gD:=ah
theorem z7 {l:List eh} {i:Nat} (h:i<l.length):aa l (i:Int)=l[i]:=by unfold aa;simp[List.getD_eq_getElem?_getD,h]
theorem yv {l:List gD} {i:Nat} (h:i<l.length):aw l (i:Int)=l[i]:=by unfold aw;simp[List.getD_eq_getElem?_getD,h]
theorem Q9 {p:Nat→Bool} {n:Nat}:hZ p (fun _=>true) false 0 n=false↔∀i,i<n→p i=false:=by
 refine⟨fun h i hi=>Gm _ _ h i (by omega) (by omega),fun h=>Bool.eq_false_iff.2 (fun hc=>?_)⟩;obtain⟨j,_,h2,h3⟩:=Ln _ _ hc;rw[h j (by omega)]at h3;cases h3
theorem sI {l:List gD} {id:Int}:named l id=true↔∃e ∈ l,e.f1=id:=by
 refine⟨fun h=>?_,fun ⟨e,he,h⟩=>?_⟩
 ·obtain⟨e,he,h⟩:=List.mem_map.1 (TW h);exact⟨e,he,h⟩
 ·cases hn:named l id with
  |true=>rfl
  |false=>
   obtain⟨i,hi,rfl⟩:=List.getElem_of_mem he;have:=Q9.1 hn i hi;rw[yv hi,decide_eq_false_iff_not]at this;exact absurd h this
theorem aoO {ds:List eh} {id:Int} (h:gQ ds id<0):∀x ∈ ds,x.f0≠id:=by
 unfold gQ at h
 rcases Br (fun i=>decide ((aa ds (i:Int)).f0=id)) ds.length 0 with ⟨j,_,_,_,j4⟩|⟨j1,_⟩
 ·rw[j4]at h;omega
 ·intro x hx;obtain⟨i,hi,rfl⟩:=List.getElem_of_mem hx;have:=j1 i (by omega) (by omega);rw[z7 hi]at this;exact of_decide_eq_false this
theorem MH {ds:List eh} {id:Int}:0≤gQ ds id↔∃x ∈ ds,x.f0=id:=by
 refine⟨fun h=>?_,fun ⟨x,hx,h⟩=>?_⟩
 ·obtain⟨j,hj,_,e⟩:=I3 h;rw[z7 hj]at e;exact⟨_,List.getElem_mem hj,e⟩
 ·rcases Int.lt_or_le (gQ ds id) 0 with hn|hn
  ·exact absurd h (aoO hn x hx)
  ·exact hn
def qc (ds:List eh) (l:List gD):Prop:=l.length≤30∧(∀e ∈ l,ir e.f0=true∧∃x ∈ ds,x.f0=e.f1)∧l.Pairwise uO∧l.Pairwise (fun a b=>a.f1≠b.f1)
theorem Lh {ds:List eh} {l:List gD}:jz ds l=true↔qc ds l:=by
 have h0:jz ds l=true↔(∀i,i<l.length→vY ds l i=false)∧l.length≤30:=by
  unfold jz;rw[v8,Bool.and_eq_true,decide_eq_true_eq,Bool.not_eq_true',Q9];constructor<;>exact fun h=>⟨h.1,by have:=h.2;omega⟩
 constructor
 ·intro h;have hr:=QU h;obtain⟨hb,hl⟩:=h0.1 h;refine⟨hl,fun e he=>?_,hr,List.pairwise_iff_getElem.2 (fun i j hi hj hij hc=>?_)⟩
  ·obtain⟨i,hi,rfl⟩:=List.getElem_of_mem he;obtain⟨a,b⟩:=Y9 h i hi;rw[yv hi]at a b;exact⟨a,MH.1 b⟩
  ·have:=hb j hj;unfold vY at this;rw[Bool.or_eq_false_iff,yv hj]at this;have hn:named (l.take j) l[j].f1=true:=sI.2 ⟨l[i],List.mem_iff_getElem.2 ⟨i,by rw[List.length_take];omega,List.getElem_take⟩,hc⟩;rw[this.2]at hn;cases hn
 ·rintro⟨hl,h1,h2,h3⟩;refine h0.2 ⟨fun i hi=>?_,hl⟩;obtain⟨a,b⟩:=h1 _ (List.getElem_mem hi);unfold vY;rw[yv hi,a,Bool.not_true,Bool.false_or,decide_eq_false (by have:=MH.2 b;omega),Bool.false_or,Bool.or_eq_false_iff];constructor
  ·rcases Nat.eq_zero_or_pos i with rfl|hp
   ·rfl
   ·have:=List.pairwise_iff_getElem.1 h2 (i-1) i (by omega) hi (by omega);rw[decide_eq_true hp,Bool.true_and,yv (by omega)];have e:Op.bytesLess l[i-1].f0.toList l[i].f0.toList=true:=this;rw[e];rfl
  ·refine Bool.eq_false_iff.2 (fun hn=>?_);obtain⟨e,he,hc⟩:=sI.1 hn;obtain⟨j,hj,rfl⟩:=List.getElem_of_mem he;rw[List.length_take]at hj;rw[List.getElem_take]at hc;exact List.pairwise_iff_getElem.1 h3 j i (by omega) hi (by omega) hc
def y5 (ds:List eh) (ns ss:List gD) (nx:Int):Prop:=ds.Pairwise (fun a b=>a.f0<b.f0)∧∀x ∈ ds,1≤x.f0∧x.f0≤nx-1∧0≤x.f2∧x.f2≤(x.f1.length:Int)∧((∃e ∈ ns,e.f1=x.f0)∨∃e ∈ ss,e.f1=x.f0)
theorem TK {ds:List eh} {ns ss:List gD} {nx:Int} (hx:1≤nx∧nx≤1000000):rH ds ns ss nx=true↔y5 ds ns ss nx:=by
 have hw:wrap64 (nx-1)=nx-1:=nn (by omega) (by omega);unfold rH;rw[Bool.not_eq_true',Q9]
 have one:∀i (hi:i<ds.length),nb ds ns ss nx i=false↔(1≤ds[i].f0∧ds[i].f0≤nx-1∧0≤ds[i].f2∧ds[i].f2≤(ds[i].f1.length:Int)∧((∃e ∈ ns,e.f1=ds[i].f0)∨∃e ∈ ss,e.f1=ds[i].f0))∧(0<i→ds[i-1].f0<ds[i].f0):=by
  intro i hi;unfold nb;rw[z7 hi,z7 (show i-1<ds.length by omega),hw];simp only[Bool.or_eq_false_iff,Bool.not_eq_false',decide_eq_true_eq,Bool.and_eq_false_iff,decide_eq_false_iff_not];rw[←sI,←sI];constructor
  ·rintro⟨⟨⟨a,b⟩,c⟩,d⟩;exact⟨⟨a.1,a.2,b.1,b.2,d⟩,fun hp=>by rcases c with c|c<;>omega⟩
  ·rintro⟨⟨a,b,c,d,e⟩,f⟩;refine⟨⟨⟨⟨a,b⟩,c,d⟩,?_⟩,e⟩;by_cases hp:0<i
   ·have:=f hp;right;omega
   ·left;exact hp
 constructor
 ·intro h;refine⟨List.pairwise_iff_getElem.2 (fun i j hi hj hij=>?_),fun x hx=>?_⟩
  ·have:∀(d:Nat) (hd:i+d+1<ds.length),ds[i].f0<ds[i+d+1].f0:=by
    intro d
    induction d with
    |zero=>intro hd;exact((one (i+1) hd).1 (h _ hd)).2 (by omega)
    |succ d ih=>
     intro hd;have h1:=ih (by omega);have h2:=((one (i+(d+1)+1) hd).1 (h _ hd)).2 (by omega);exact Int.lt_trans h1 h2
   have h3:=this (j-i-1) (by omega);have e:i+(j-i-1)+1=j:=by omega
   simp only[e]at h3;exact h3
  ·obtain⟨i,hi,rfl⟩:=List.getElem_of_mem hx;exact((one i hi).1 (h i hi)).1
 ·rintro⟨h1,h2⟩ i hi;exact(one i hi).2 ⟨h2 _ (List.getElem_mem hi),fun hp=>List.pairwise_iff_getElem.1 h1 (i-1) i (by omega) hi (by omega)⟩
def gl (ds:List eh):Nat:=(ds.map (fun x=>x.f1.length)).sum
theorem apr (ds:List eh):kZ ds ds.length=(gl ds:Int):=by
 have:∀i,i≤ds.length→kZ ds i=(gl (ds.take i):Int):=by
  intro i
  induction i with
  |zero=>intro _;rfl
  |succ i ih=>
   intro hi;have e:kZ ds (i+1)=kZ ds i+((aa ds (i:Int)).f1.length:Int):=rfl;rw[e,ih (by omega),z7 (by omega),List.take_succ_eq_append_getElem (by omega)];unfold gl;rw[List.map_append,List.sum_append];simp
 have h:=this ds.length (Nat.le_refl _);rw[List.take_length]at h;exact h
structure kD (ds:List eh) (ns ss:List gD) (nx:Int):Prop where
 n1:1≤nx∧nx≤1000000
 i1:y5 ds ns ss nx
 t1:gl ds≤60000
 e1:qc ds ns
 e2:qc ds ss
theorem vX {ds:List eh} {ns ss:List gD} {nx:Int}:bS ds ns ss nx=true↔kD ds ns ss nx:=by
 unfold bS;simp only[Bool.and_eq_true,decide_eq_true_eq];rw[apr,Lh,Lh];exact⟨fun ⟨a,b,c,d,e⟩=>⟨a,(TK a).1 b,by omega,d,e⟩,fun h=>⟨h.n1,(TK h.n1).2 h.i1,by have:=h.t1;omega,h.e1,h.e2⟩⟩
theorem aqn {ds:List eh} {x:eh} (h:x ∈ ds):x.f1.length≤gl ds:=by
 unfold gl
 induction ds with
 |nil=>cases h
 |cons y r ih=>
  rw[List.map_cons,List.sum_cons]
  rcases List.mem_cons.1 h with rfl|h
  ·omega
  ·have:=ih h;omega
theorem ac1 {s:ByteArray} (h:ir s=true):1≤s.size∧s.size≤12:=by
 unfold ir at h;rw[Bool.and_eq_true,decide_eq_true_eq]at h;omega
theorem kD.small {ds:List eh} {ns ss:List gD} {nx:Int} (h:kD ds ns ss nx):Small ds ns ss∧∀x ∈ ds,x.f1.length≤1048576:=by
 have hf:=Q8 ((TK h.n1).2 h.i1) (Lh.2 h.e1) (Lh.2 h.e2);have hd:∀x ∈ ds,x.f1.length≤60000:=fun x hx=>Nat.le_trans (aqn hx) h.t1
 exact⟨⟨by omega,fun x hx=>Nat.le_trans (hd x hx) (by decide),by have:=h.e1.1;omega,by have:=h.e2.1;omega,fun e he=>by have:=ac1 (h.e1.2.1 e he).1;omega,fun e he=>by have:=ac1 (h.e2.2.1 e he).1;omega⟩,fun x hx=>Nat.le_trans (hd x hx) (by decide)⟩
theorem ade {α:Type} (l:List α) (z:α) (p:α→Bool):((List.range l.length).filter (fun i=>p (l.getD i z))).map (fun i=>l.getD i z)=l.filter p:=by
 have h:=List.filter_map (l:=List.range l.length) (f:=fun i=>l.getD i z) (p:=p);rw[adf l (fun x=>x) z]at h;rw[List.map_id']at h;exact h.symm
theorem yn (ds:List eh) (ns ss:List gD):kept ds ns ss=ds.filter (fun x=>named ns x.f0 || named ss x.f0):=by
 unfold kept aa;simp only[Int.toNat_natCast];exact ade ds z80 (fun x=>named ns x.f0 || named ss x.f0)
theorem Es (ds:List eh) (p:eh→Bool):gl (ds.filter p)≤gl ds:=by
 unfold gl
 induction ds with
 |nil=>simp
 |cons x r ih=>
  rw[List.filter_cons];split<;>simp only[List.map_cons,List.sum_cons]<;>omega
theorem qc.keep {ds ds':List eh} {l:List gD} (h:qc ds l) (hk:∀e ∈ l,∀x ∈ ds,x.f0=e.f1→∃y ∈ ds',y.f0=e.f1):qc ds' l:=
 ⟨h.1,fun e he=>⟨(h.2.1 e he).1,by obtain⟨x,hx,e1⟩:=(h.2.1 e he).2;exact hk e he x hx e1⟩,h.2.2⟩
theorem qc.filter {ds:List eh} {l:List gD} (h:qc ds l) (p:gD→Bool):qc ds (l.filter p):=
 ⟨Nat.le_trans (List.length_filter_le _ _) h.1,fun e he=>h.2.1 e (List.mem_filter.1 he).1,h.2.2.1.filter _,h.2.2.2.filter _⟩
theorem ac4 {ds:List eh} {ns ss ns' ss':List gD} {nx:Int} (h:kD ds ns ss nx) (h1:qc ds ns') (h2:qc ds ss'):kD (kept ds ns' ss') ns' ss' nx:=by
 rw[yn]
 have hm:∀(l:List gD),(∀e ∈ l,e ∈ ns'∨e ∈ ss')→∀e ∈ l,∀x ∈ ds,x.f0=e.f1→∃y ∈ ds.filter (fun x=>named ns' x.f0 || named ss' x.f0),y.f0=e.f1:=by
  intro l hl e he x hx hxe;refine⟨x,List.mem_filter.2 ⟨hx,?_⟩,hxe⟩;rw[Bool.or_eq_true,sI,sI];exact(hl e he).imp (fun h=>⟨e,h,hxe.symm⟩) (fun h=>⟨e,h,hxe.symm⟩)
 refine⟨h.n1,⟨h.i1.1.filter _,fun x hx=>?_⟩,Nat.le_trans (Es _ _) h.t1,h1.keep (hm ns' (fun e he=>Or.inl he)),h2.keep (hm ss' (fun e he=>Or.inr he))⟩;obtain⟨hx,hn⟩:=List.mem_filter.1 hx;obtain⟨a,b,c,d,_⟩:=h.i1.2 x hx;rw[Bool.or_eq_true,sI,sI]at hn;exact⟨a,b,c,d,hn⟩
theorem acT {ds:List eh} {ns ss:List gD} {nx:Int} (h:y5 ds ns ss nx):kept ds ns ss=ds:=by
 rw[yn];exact List.filter_eq_self.2 (fun x hx=>by rw[Bool.or_eq_true,sI,sI];exact(h.2 x hx).2.2.2.2)
end Go.Proofs.Ytgpkdbnikcghgaa.MPD
