/- A disk that is right, told of lists: what each change leaves. -/
import Derived.Test.YtgpkdbnikcghgaaMPD
set_option linter.unusedVariables false
set_option linter.unusedSimpArgs false
namespace Go.Proofs.Ytgpkdbnikcghgaa.MPD
open Go.RowKit Go.Proofs.Ytgpkdbnikcghgaa.MD Go.Proofs.YtgpkdbnikcghgaaW.PrintWords Go.Proofs.YtgpkdbnikcghgaaW.PrintLast Go.Proofs.YtgpkdbnikcghgaaW.PrintMore
abbrev eE:=aj
abbrev gV:=ah
theorem xW {l:List eE} {i:Nat} (h:i<l.length):aa l (i:Int)=l[i]:=by unfold aa;simp[List.getD_eq_getElem?_getD,h]
theorem xV {l:List gV} {i:Nat} (h:i<l.length):av l (i:Int)=l[i]:=by unfold av;simp[List.getD_eq_getElem?_getD,h]
theorem QE {p:Nat→Bool} {n:Nat}:hO p (fun _=>true) false 0 n=false↔∀i,i<n→p i=false:=by
 refine⟨fun h i hi=>F0 _ _ h i (by omega) (by omega),fun h=>Bool.eq_false_iff.2 (fun hc=>?_)⟩;obtain⟨j,_,h2,h3⟩:=KG _ _ hc;rw[h j (by omega)]at h3;cases h3
theorem uG {l:List gV} {id:Int}:named l id=true↔∃e ∈ l,e.f1=id:=by
 refine⟨fun h=>?_,fun ⟨e,he,h⟩=>?_⟩
 ·obtain⟨e,he,h⟩:=List.mem_map.1 (Tg h);exact⟨e,he,h⟩
 ·cases hn:named l id with
  |true=>rfl
  |false=>
   obtain⟨i,hi,rfl⟩:=List.getElem_of_mem he;have:=QE.1 hn i hi;rw[xV hi,decide_eq_false_iff_not]at this;exact absurd h this
theorem aob {ds:List eE} {id:Int} (h:js ds id<0):∀x ∈ ds,x.f0≠id:=by
 unfold js at h
 rcases Df (fun i=>decide ((aa ds (i:Int)).f0=id)) ds.length 0 with ⟨j,_,_,_,j4⟩|⟨j1,_⟩
 ·rw[j4]at h;omega
 ·intro x hx;obtain⟨i,hi,rfl⟩:=List.getElem_of_mem hx;have:=j1 i (by omega) (by omega);rw[xW hi]at this;exact of_decide_eq_false this
theorem L5 {ds:List eE} {id:Int}:0≤js ds id↔∃x ∈ ds,x.f0=id:=by
 refine⟨fun h=>?_,fun ⟨x,hx,h⟩=>?_⟩
 ·obtain⟨j,hj,_,e⟩:=L4 h;rw[xW hj]at e;exact⟨_,List.getElem_mem hj,e⟩
 ·rcases Int.lt_or_le (js ds id) 0 with hn|hn
  ·exact absurd h (aob hn x hx)
  ·exact hn
def pW (ds:List eE) (l:List gV):Prop:=l.length≤30∧(∀e ∈ l,ja e.f0=true∧∃x ∈ ds,x.f0=e.f1)∧l.Pairwise uE∧l.Pairwise (fun a b=>a.f1≠b.f1)
theorem Kz {ds:List eE} {l:List gV}:jV ds l=true↔pW ds l:=by
 have h0:jV ds l=true↔(∀i,i<l.length→xi ds l i=false)∧l.length≤30:=by
  unfold jV;rw[vO,Bool.and_eq_true,decide_eq_true_eq,Bool.not_eq_true',QE];constructor<;>exact fun h=>⟨h.1,by have:=h.2;omega⟩
 constructor
 ·intro h;have hr:=Qr h;obtain⟨hb,hl⟩:=h0.1 h;refine⟨hl,fun e he=>?_,hr,List.pairwise_iff_getElem.2 (fun i j hi hj hij hc=>?_)⟩
  ·obtain⟨i,hi,rfl⟩:=List.getElem_of_mem he;obtain⟨a,b⟩:=Yk h i hi;rw[xV hi]at a b;exact⟨a,L5.1 b⟩
  ·have:=hb j hj;unfold xi at this;rw[Bool.or_eq_false_iff,xV hj]at this;have hn:named (l.take j) l[j].f1=true:=uG.2 ⟨l[i],List.mem_iff_getElem.2 ⟨i,by rw[List.length_take];omega,List.getElem_take⟩,hc⟩;rw[this.2]at hn;cases hn
 ·rintro⟨hl,h1,h2,h3⟩;refine h0.2 ⟨fun i hi=>?_,hl⟩;obtain⟨a,b⟩:=h1 _ (List.getElem_mem hi);unfold xi;rw[xV hi,a,Bool.not_true,Bool.false_or,decide_eq_false (by have:=L5.2 b;omega),Bool.false_or,Bool.or_eq_false_iff];constructor
  ·rcases Nat.eq_zero_or_pos i with rfl|hp
   ·rfl
   ·have:=List.pairwise_iff_getElem.1 h2 (i-1) i (by omega) hi (by omega);rw[decide_eq_true hp,Bool.true_and,xV (by omega)];have e:Op.bytesLess l[i-1].f0.toList l[i].f0.toList=true:=this;rw[e];rfl
  ·refine Bool.eq_false_iff.2 (fun hn=>?_);obtain⟨e,he,hc⟩:=uG.1 hn;obtain⟨j,hj,rfl⟩:=List.getElem_of_mem he;rw[List.length_take]at hj;rw[List.getElem_take]at hc;exact List.pairwise_iff_getElem.1 h3 j i (by omega) hi (by omega) hc
def yD (ds:List eE) (ns ss:List gV) (nx:Int):Prop:=ds.Pairwise (fun a b=>a.f0<b.f0)∧∀x ∈ ds,1≤x.f0∧x.f0≤nx-1∧0≤x.f2∧x.f2≤(x.f1.length:Int)∧((∃e ∈ ns,e.f1=x.f0)∨∃e ∈ ss,e.f1=x.f0)
theorem S5 {ds:List eE} {ns ss:List gV} {nx:Int} (hx:1≤nx∧nx≤1000000):td ds ns ss nx=true↔yD ds ns ss nx:=by
 have hw:wrap64 (nx-1)=nx-1:=pQ (by omega) (by omega);unfold td;rw[Bool.not_eq_true',QE]
 have one:∀i (hi:i<ds.length),oQ ds ns ss nx i=false↔(1≤ds[i].f0∧ds[i].f0≤nx-1∧0≤ds[i].f2∧ds[i].f2≤(ds[i].f1.length:Int)∧((∃e ∈ ns,e.f1=ds[i].f0)∨∃e ∈ ss,e.f1=ds[i].f0))∧(0<i→ds[i-1].f0<ds[i].f0):=by
  intro i hi;unfold oQ;rw[xW hi,xW (show i-1<ds.length by omega),hw];simp only[Bool.or_eq_false_iff,Bool.not_eq_false',decide_eq_true_eq,Bool.and_eq_false_iff,decide_eq_false_iff_not];rw[←uG,←uG];constructor
  ·rintro⟨⟨⟨a,b⟩,c⟩,d⟩;exact⟨⟨a.1,a.2,b.1,b.2,d⟩,fun hp=>by rcases c with c|c<;>omega⟩
  ·rintro⟨⟨a,b,c,d,e⟩,f⟩;refine⟨⟨⟨⟨a,b⟩,c,d⟩,?_⟩,e⟩;by_cases hp:0<i
   ·have:=f hp;right;omega
   ·left;exact hp
 constructor
 ·intro h;refine⟨List.pairwise_iff_getElem.2 (fun i j hi hj hij=>?_),fun x hx=>?_⟩
  ·have:∀(d:Nat) (hd:i+d+1<ds.length),ds[i].f0<ds[i+d+1].f0:=by
    intro d
    induction d with
    |zero=>intro hd;exact((one (i+1) hd).1 (h _ hd)).2 (by omega)
    |succ d ih=>
     intro hd;have h1:=ih (by omega);have h2:=((one (i+(d+1)+1) hd).1 (h _ hd)).2 (by omega);exact Int.lt_trans h1 h2
   have h3:=this (j-i-1) (by omega);have e:i+(j-i-1)+1=j:=by omega
   simp only[e]at h3;exact h3
  ·obtain⟨i,hi,rfl⟩:=List.getElem_of_mem hx;exact((one i hi).1 (h i hi)).1
 ·rintro⟨h1,h2⟩ i hi;exact(one i hi).2 ⟨h2 _ (List.getElem_mem hi),fun hp=>List.pairwise_iff_getElem.1 h1 (i-1) i (by omega) hi (by omega)⟩
def gU (ds:List eE):Nat:=(ds.map (fun x=>x.f1.length)).sum
theorem aoM (ds:List eE):l7 ds ds.length=(gU ds:Int):=by
 have:∀i,i≤ds.length→l7 ds i=(gU (ds.take i):Int):=by
  intro i
  induction i with
  |zero=>intro _;rfl
  |succ i ih=>
   intro hi;have e:l7 ds (i+1)=l7 ds i+((aa ds (i:Int)).f1.length:Int):=rfl;rw[e,ih (by omega),xW (by omega),List.take_succ_eq_append_getElem (by omega)];unfold gU;rw[List.map_append,List.sum_append];simp
 have h:=this ds.length (Nat.le_refl _);rw[List.take_length]at h;exact h
structure ke (ds:List eE) (ns ss:List gV) (nx:Int):Prop where
 n1:1≤nx∧nx≤1000000
 i1:yD ds ns ss nx
 t1:gU ds≤60000
 e1:pW ds ns
 e2:pW ds ss
theorem xh {ds:List eE} {ns ss:List gV} {nx:Int}:b8 ds ns ss nx=true↔ke ds ns ss nx:=by
 unfold b8;simp only[Bool.and_eq_true,decide_eq_true_eq];rw[aoM,Kz,Kz];exact⟨fun ⟨a,b,c,d,e⟩=>⟨a,(S5 a).1 b,by omega,d,e⟩,fun h=>⟨h.n1,(S5 h.n1).2 h.i1,by have:=h.t1;omega,h.e1,h.e2⟩⟩
theorem apL {ds:List eE} {x:eE} (h:x ∈ ds):x.f1.length≤gU ds:=by
 unfold gU
 induction ds with
 |nil=>cases h
 |cons y r ih=>
  rw[List.map_cons,List.sum_cons]
  rcases List.mem_cons.1 h with rfl|h
  ·omega
  ·have:=ih h;omega
theorem acm {s:ByteArray} (h:ja s=true):1≤s.size∧s.size≤12:=by
 unfold ja at h;rw[Bool.and_eq_true,decide_eq_true_eq]at h;omega
theorem ke.small {ds:List eE} {ns ss:List gV} {nx:Int} (h:ke ds ns ss nx):Small ds ns ss∧∀x ∈ ds,x.f1.length≤1048576:=by
 have hf:=QD ((S5 h.n1).2 h.i1) (Kz.2 h.e1) (Kz.2 h.e2);have hd:∀x ∈ ds,x.f1.length≤60000:=fun x hx=>Nat.le_trans (apL hx) h.t1
 exact⟨⟨by omega,fun x hx=>Nat.le_trans (hd x hx) (by decide),by have:=h.e1.1;omega,by have:=h.e2.1;omega,fun e he=>by have:=acm (h.e1.2.1 e he).1;omega,fun e he=>by have:=acm (h.e2.2.1 e he).1;omega⟩,fun x hx=>Nat.le_trans (hd x hx) (by decide)⟩
theorem acw {α:Type} (l:List α) (z:α) (p:α→Bool):((List.range l.length).filter (fun i=>p (l.getD i z))).map (fun i=>l.getD i z)=l.filter p:=by
 have h:=List.filter_map (l:=List.range l.length) (f:=fun i=>l.getD i z) (p:=p);rw[acx l (fun x=>x) z]at h;rw[List.map_id']at h;exact h.symm
theorem DG (ds:List eE) (ns ss:List gV):kept ds ns ss=ds.filter (fun x=>named ns x.f0 || named ss x.f0):=by
 unfold kept aa;simp only[Int.toNat_natCast];exact acw ds z80 (fun x=>named ns x.f0 || named ss x.f0)
theorem MZ (ds:List eE) (p:eE→Bool):gU (ds.filter p)≤gU ds:=by
 unfold gU
 induction ds with
 |nil=>simp
 |cons x r ih=>
  rw[List.filter_cons];split<;>simp only[List.map_cons,List.sum_cons]<;>omega
theorem pW.keep {ds ds':List eE} {l:List gV} (h:pW ds l) (hk:∀e ∈ l,∀x ∈ ds,x.f0=e.f1→∃y ∈ ds',y.f0=e.f1):pW ds' l:=
 ⟨h.1,fun e he=>⟨(h.2.1 e he).1,by obtain⟨x,hx,e1⟩:=(h.2.1 e he).2;exact hk e he x hx e1⟩,h.2.2⟩
theorem pW.filter {ds:List eE} {l:List gV} (h:pW ds l) (p:gV→Bool):pW ds (l.filter p):=
 ⟨Nat.le_trans (List.length_filter_le _ _) h.1,fun e he=>h.2.1 e (List.mem_filter.1 he).1,h.2.2.1.filter _,h.2.2.2.filter _⟩
theorem Th {ds:List eE} {ns ss ns' ss':List gV} {nx:Int} (h:ke ds ns ss nx) (h1:pW ds ns') (h2:pW ds ss'):ke (kept ds ns' ss') ns' ss' nx:=by
 rw[DG]
 have hm:∀(l:List gV),(∀e ∈ l,e ∈ ns'∨e ∈ ss')→∀e ∈ l,∀x ∈ ds,x.f0=e.f1→∃y ∈ ds.filter (fun x=>named ns' x.f0 || named ss' x.f0),y.f0=e.f1:=by
  intro l hl e he x hx hxe;refine⟨x,List.mem_filter.2 ⟨hx,?_⟩,hxe⟩;rw[Bool.or_eq_true,uG,uG];exact(hl e he).imp (fun h=>⟨e,h,hxe.symm⟩) (fun h=>⟨e,h,hxe.symm⟩)
 refine⟨h.n1,⟨h.i1.1.filter _,fun x hx=>?_⟩,Nat.le_trans (MZ _ _) h.t1,h1.keep (hm ns' (fun e he=>Or.inl he)),h2.keep (hm ss' (fun e he=>Or.inr he))⟩;obtain⟨hx,hn⟩:=List.mem_filter.1 hx;obtain⟨a,b,c,d,_⟩:=h.i1.2 x hx;rw[Bool.or_eq_true,uG,uG]at hn;exact⟨a,b,c,d,hn⟩
theorem ace {ds:List eE} {ns ss:List gV} {nx:Int} (h:yD ds ns ss nx):kept ds ns ss=ds:=by
 rw[DG];exact List.filter_eq_self.2 (fun x hx=>by rw[Bool.or_eq_true,uG,uG];exact(h.2 x hx).2.2.2.2)
end Go.Proofs.Ytgpkdbnikcghgaa.MPD
