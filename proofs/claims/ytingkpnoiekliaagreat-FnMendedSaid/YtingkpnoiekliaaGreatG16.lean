/- Walks and plain laws, put together: no condition of their own. -/
import Derived.Test.YtingkpnoiekliaaGreatMPD
import Derived.Test.YtingkpnoiekliaaGreatG1
import Derived.Test.YtingkpnoiekliaaGreatMZx31
section
set_option linter.unusedVariables false
set_option linter.unusedSimpArgs false
namespace Go.Proofs.YtingkpnoiekliaaGreat.MZ
open Go.RowKit Go.Proofs.YtingkpnoiekliaaGreat.MZ Go.Proofs.YtingkpnoiekliaaGreatW.PrintWords Go.Proofs.YtingkpnoiekliaaGreatW.PrintLast Go.Proofs.YtingkpnoiekliaaGreatW.PrintMore
abbrev dA:=aj
abbrev gu:=ab
theorem tX {l:List dA} {i:Nat} (h:i<l.length):ae l (i:Int)=l[i]:=by unfold ae;simp[List.getD_eq_getElem?_getD,h]
theorem vt {l:List gu} {i:Nat} (h:i<l.length):aK l (i:Int)=l[i]:=by unfold aK;simp[List.getD_eq_getElem?_getD,h]
theorem Np {p:Nat→Bool} {n:Nat}:fl p (fun _=>true) false 0 n=false↔∀i,i<n→p i=false:=by
 refine⟨fun h i hi=>Dw _ _ h i (by omega) (by omega),fun h=>Bool.eq_false_iff.2 (fun hc=>?_)⟩;obtain⟨j,_,h2,h3⟩:=Nq _ _ hc;rw[h j (by omega)]at h3;cases h3
theorem qu {l:List gu} {id:Int}:named l id=true↔∃e ∈ l,e.f1=id:=by
 refine⟨fun h=>?_,fun ⟨e,he,h⟩=>?_⟩
 ·obtain⟨e,he,h⟩:=List.mem_map.1 (OO h);exact⟨e,he,h⟩
 ·cases hn:named l id with
  |true=>rfl
  |false=>
   obtain⟨i,hi,rfl⟩:=List.getElem_of_mem he;have:=Np.1 hn i hi;rw[vt hi,decide_eq_false_iff_not]at this;exact absurd h this
theorem ak4 {ds:List dA} {id:Int} (h:fK ds id<0):∀x ∈ ds,x.f0≠id:=by
 unfold fK at h
 rcases yD (fun i=>decide ((ae ds (i:Int)).f0=id)) ds.length 0 with ⟨j,_,_,_,j4⟩|⟨j1,_⟩
 ·rw[j4]at h;omega
 ·intro x hx;obtain⟨i,hi,rfl⟩:=List.getElem_of_mem hx;have:=j1 i (by omega) (by omega);rw[tX hi]at this;exact of_decide_eq_false this
theorem Jw {ds:List dA} {id:Int}:0≤fK ds id↔∃x ∈ ds,x.f0=id:=by
 refine⟨fun h=>?_,fun ⟨x,hx,h⟩=>?_⟩
 ·obtain⟨j,hj,_,e⟩:=FJ h;rw[tX hj]at e;exact⟨_,List.getElem_mem hj,e⟩
 ·rcases Int.lt_or_le (fK ds id) 0 with hn|hn
  ·exact absurd h (ak4 hn x hx)
  ·exact hn
def oA (ds:List dA) (l:List gu):Prop:=l.length≤30∧(∀e ∈ l,fe e.f0=true∧∃x ∈ ds,x.f0=e.f1)∧l.Pairwise sM∧l.Pairwise (fun a b=>a.f1≠b.f1)
theorem HU {ds:List dA} {l:List gu}:iB ds l=true↔oA ds l:=by
 have h0:iB ds l=true↔(∀i,i<l.length→nr ds l i=false)∧l.length≤30:=by
  unfold iB;rw[yC,Bool.and_eq_true,decide_eq_true_eq,Bool.not_eq_true',Np];constructor<;>exact fun h=>⟨h.1,by have:=h.2;omega⟩
 constructor
 ·intro h;have hr:=HX h;obtain⟨hb,hl⟩:=h0.1 h;refine⟨hl,fun e he=>?_,hr,List.pairwise_iff_getElem.2 (fun i j hi hj hij hc=>?_)⟩
  ·obtain⟨i,hi,rfl⟩:=List.getElem_of_mem he;obtain⟨a,b⟩:=UA h i hi;rw[vt hi]at a b;exact⟨a,Jw.1 b⟩
  ·have:=hb j hj;unfold nr at this;rw[Bool.or_eq_false_iff,vt hj]at this;have hn:named (l.take j) l[j].f1=true:=qu.2 ⟨l[i],List.mem_iff_getElem.2 ⟨i,by rw[List.length_take];omega,List.getElem_take⟩,hc⟩;rw[this.2]at hn;cases hn
 ·rintro⟨hl,h1,h2,h3⟩;refine h0.2 ⟨fun i hi=>?_,hl⟩;obtain⟨a,b⟩:=h1 _ (List.getElem_mem hi);unfold nr;rw[vt hi,a,Bool.not_true,Bool.false_or,decide_eq_false (by have:=Jw.2 b;omega),Bool.false_or,Bool.or_eq_false_iff];constructor
  ·rcases Nat.eq_zero_or_pos i with rfl|hp
   ·rfl
   ·have:=List.pairwise_iff_getElem.1 h2 (i-1) i (by omega) hi (by omega);rw[decide_eq_true hp,Bool.true_and,vt (by omega)];have e:Op.bytesLess l[i-1].f0.toList l[i].f0.toList=true:=this;rw[e];rfl
  ·refine Bool.eq_false_iff.2 (fun hn=>?_);obtain⟨e,he,hc⟩:=qu.1 hn;obtain⟨j,hj,rfl⟩:=List.getElem_of_mem he;rw[List.length_take]at hj;rw[List.getElem_take]at hc;exact List.pairwise_iff_getElem.1 h3 j i (by omega) hi (by omega) hc
def vU (ds:List dA) (ns ss:List gu) (nx:Int):Prop:=ds.Pairwise (fun a b=>a.f0<b.f0)∧∀x ∈ ds,1≤x.f0∧x.f0≤nx-1∧0≤x.f2∧x.f2≤(x.f1.length:Int)∧((∃e ∈ ns,e.f1=x.f0)∨∃e ∈ ss,e.f1=x.f0)
theorem OD {ds:List dA} {ns ss:List gu} {nx:Int} (hx:1≤nx∧nx≤1000000):oS ds ns ss nx=true↔vU ds ns ss nx:=by
 have hw:wrap64 (nx-1)=nx-1:=dO (by omega) (by omega);unfold oS;rw[Bool.not_eq_true',Np]
 have one:∀i (hi:i<ds.length),jz ds ns ss nx i=false↔(1≤ds[i].f0∧ds[i].f0≤nx-1∧0≤ds[i].f2∧ds[i].f2≤(ds[i].f1.length:Int)∧((∃e ∈ ns,e.f1=ds[i].f0)∨∃e ∈ ss,e.f1=ds[i].f0))∧(0<i→ds[i-1].f0<ds[i].f0):=by
  intro i hi;unfold jz;rw[tX hi,tX (show i-1<ds.length by omega),hw];simp only[Bool.or_eq_false_iff,Bool.not_eq_false',decide_eq_true_eq,Bool.and_eq_false_iff,decide_eq_false_iff_not];rw[←qu,←qu];constructor
  ·rintro⟨⟨⟨a,b⟩,c⟩,d⟩;exact⟨⟨a.1,a.2,b.1,b.2,d⟩,fun hp=>by rcases c with c|c<;>omega⟩
  ·rintro⟨⟨a,b,c,d,e⟩,f⟩;refine⟨⟨⟨⟨a,b⟩,c,d⟩,?_⟩,e⟩;by_cases hp:0<i
   ·have:=f hp;right;omega
   ·left;exact hp
 constructor
 ·intro h;refine⟨List.pairwise_iff_getElem.2 (fun i j hi hj hij=>?_),fun x hx=>?_⟩
  ·have:∀(d:Nat) (hd:i+d+1<ds.length),ds[i].f0<ds[i+d+1].f0:=by
    intro d
    induction d with
    |zero=>intro hd;exact((one (i+1) hd).1 (h _ hd)).2 (by omega)
    |succ d ih=>
     intro hd;have h1:=ih (by omega);have h2:=((one (i+(d+1)+1) hd).1 (h _ hd)).2 (by omega);exact Int.lt_trans h1 h2
   have h3:=this (j-i-1) (by omega);have e:i+(j-i-1)+1=j:=by omega
   simp only[e]at h3;exact h3
  ·obtain⟨i,hi,rfl⟩:=List.getElem_of_mem hx;exact((one i hi).1 (h i hi)).1
 ·rintro⟨h1,h2⟩ i hi;exact(one i hi).2 ⟨h2 _ (List.getElem_mem hi),fun hp=>List.pairwise_iff_getElem.1 h1 (i-1) i (by omega) hi (by omega)⟩
def gr (ds:List dA):Nat:=(ds.map (fun x=>x.f1.length)).sum
theorem alQ (ds:List dA):jC ds ds.length=(gr ds:Int):=by
 have:∀i,i≤ds.length→jC ds i=(gr (ds.take i):Int):=by
  intro i
  induction i with
  |zero=>intro _;rfl
  |succ i ih=>
   intro hi;have e:jC ds (i+1)=jC ds i+((ae ds (i:Int)).f1.length:Int):=rfl;rw[e,ih (by omega),tX (by omega),List.take_succ_eq_append_getElem (by omega)];unfold gr;rw[List.map_append,List.sum_append];simp
 have h:=this ds.length (Nat.le_refl _);rw[List.take_length]at h;exact h
structure iO (ds:List dA) (ns ss:List gu) (nx:Int):Prop where
 n1:1≤nx∧nx≤1000000
 i1:vU ds ns ss nx
 t1:gr ds≤60000
 e1:oA ds ns
 e2:oA ds ss
theorem qn {ds:List dA} {ns ss:List gu} {nx:Int}:bO ds ns ss nx=true↔iO ds ns ss nx:=by
 unfold bO;simp only[Bool.and_eq_true,decide_eq_true_eq];rw[alQ,HU,HU];exact⟨fun ⟨a,b,c,d,e⟩=>⟨a,(OD a).1 b,by omega,d,e⟩,fun h=>⟨h.n1,(OD h.n1).2 h.i1,by have:=h.t1;omega,h.e1,h.e2⟩⟩
theorem am2 {ds:List dA} {x:dA} (h:x ∈ ds):x.f1.length≤gr ds:=by
 unfold gr
 induction ds with
 |nil=>cases h
 |cons y r ih=>
  rw[List.map_cons,List.sum_cons]
  rcases List.mem_cons.1 h with rfl|h
  ·omega
  ·have:=ih h;omega
theorem Yx {s:ByteArray} (h:fe s=true):1≤s.size∧s.size≤12:=by
 unfold fe at h;rw[Bool.and_eq_true,decide_eq_true_eq]at h;omega
theorem iO.small {ds:List dA} {ns ss:List gu} {nx:Int} (h:iO ds ns ss nx):Small ds ns ss∧∀x ∈ ds,x.f1.length≤1048576:=by
 have hf:=No ((OD h.n1).2 h.i1) (HU.2 h.e1) (HU.2 h.e2);have hd:∀x ∈ ds,x.f1.length≤60000:=fun x hx=>Nat.le_trans (am2 hx) h.t1
 exact⟨⟨by omega,fun x hx=>Nat.le_trans (hd x hx) (by decide),by have:=h.e1.1;omega,by have:=h.e2.1;omega,fun e he=>by have:=Yx (h.e1.2.1 e he).1;omega,fun e he=>by have:=Yx (h.e2.2.1 e he).1;omega⟩,fun x hx=>Nat.le_trans (hd x hx) (by decide)⟩
theorem YL {α:Type} (l:List α) (z:α) (p:α→Bool):((List.range l.length).filter (fun i=>p (l.getD i z))).map (fun i=>l.getD i z)=l.filter p:=by
 have h:=List.filter_map (l:=List.range l.length) (f:=fun i=>l.getD i z) (p:=p);rw[YM l (fun x=>x) z]at h;rw[List.map_id']at h;exact h.symm
theorem wW (ds:List dA) (ns ss:List gu):kept ds ns ss=ds.filter (fun x=>named ns x.f0 || named ss x.f0):=by
 unfold kept ae;simp only[Int.toNat_natCast];exact YL ds gV (fun x=>named ns x.f0 || named ss x.f0)
theorem Kt (ds:List dA) (p:dA→Bool):gr (ds.filter p)≤gr ds:=by
 unfold gr
 induction ds with
 |nil=>simp
 |cons x r ih=>
  rw[List.filter_cons];split<;>simp only[List.map_cons,List.sum_cons]<;>omega
theorem oA.keep {ds ds':List dA} {l:List gu} (h:oA ds l) (hk:∀e ∈ l,∀x ∈ ds,x.f0=e.f1→∃y ∈ ds',y.f0=e.f1):oA ds' l:=
 ⟨h.1,fun e he=>⟨(h.2.1 e he).1,by obtain⟨x,hx,e1⟩:=(h.2.1 e he).2;exact hk e he x hx e1⟩,h.2.2⟩
theorem oA.filter {ds:List dA} {l:List gu} (h:oA ds l) (p:gu→Bool):oA ds (l.filter p):=
 ⟨Nat.le_trans (List.length_filter_le _ _) h.1,fun e he=>h.2.1 e (List.mem_filter.1 he).1,h.2.2.1.filter _,h.2.2.2.filter _⟩
theorem OR {ds:List dA} {ns ss ns' ss':List gu} {nx:Int} (h:iO ds ns ss nx) (h1:oA ds ns') (h2:oA ds ss'):iO (kept ds ns' ss') ns' ss' nx:=by
 rw[wW]
 have hm:∀(l:List gu),(∀e ∈ l,e ∈ ns'∨e ∈ ss')→∀e ∈ l,∀x ∈ ds,x.f0=e.f1→∃y ∈ ds.filter (fun x=>named ns' x.f0 || named ss' x.f0),y.f0=e.f1:=by
  intro l hl e he x hx hxe;refine⟨x,List.mem_filter.2 ⟨hx,?_⟩,hxe⟩;rw[Bool.or_eq_true,qu,qu];exact(hl e he).imp (fun h=>⟨e,h,hxe.symm⟩) (fun h=>⟨e,h,hxe.symm⟩)
 refine⟨h.n1,⟨h.i1.1.filter _,fun x hx=>?_⟩,Nat.le_trans (Kt _ _) h.t1,h1.keep (hm ns' (fun e he=>Or.inl he)),h2.keep (hm ss' (fun e he=>Or.inr he))⟩;obtain⟨hx,hn⟩:=List.mem_filter.1 hx;obtain⟨a,b,c,d,_⟩:=h.i1.2 x hx;rw[Bool.or_eq_true,qu,qu]at hn;exact⟨a,b,c,d,hn⟩
theorem Yi {ds:List dA} {ns ss:List gu} {nx:Int} (h:vU ds ns ss nx):kept ds ns ss=ds:=by
 rw[wW];exact List.filter_eq_self.2 (fun x hx=>by rw[Bool.or_eq_true,qu,qu];exact(h.2 x hx).2.2.2.2)
end Go.Proofs.YtingkpnoiekliaaGreat.MZ
end
section
set_option linter.unusedVariables false
set_option linter.unusedSimpArgs false
namespace Go.Proofs.YtingkpnoiekliaaGreat.MZ
open Go.RowKit Go.Proofs.YtingkpnoiekliaaGreat.MZ Go.Proofs.YtingkpnoiekliaaGreatW.PrintWords Go.Proofs.YtingkpnoiekliaaGreatW.PrintLast Go.Proofs.YtingkpnoiekliaaGreatW.PrintMore
def bR (r:dG):ik:=⟨r.1,r.2.1,r.2.2.1,r.2.2.2.1⟩
abbrev yd (d:ik):Prop:=iO d.f0 d.f1 d.f2 d.f3
section
variable {ds:List dA} {ns ss:List gu} {nx:Int} {nm:ByteArray}
theorem yx (d0:List dA) (n0 s0:List gu) (x0:Int) (ds:List dA) (ns ss:List gu) (nx:Int) :
 (iO (kept ds ns ss) ns ss nx∧jl d0 n0 s0 x0 ds ns ss nx=(kept ds ns ss,ns,ss,nx,0))∨(¬iO (kept ds ns ss) ns ss nx∧jl d0 n0 s0 x0 ds ns ss nx=(d0,n0,s0,x0,4)):=by
 unfold jl;by_cases h:bO (kept ds ns ss) ns ss nx=true
 ·exact Or.inl ⟨qn.1 h,if_pos h⟩
 ·exact Or.inr ⟨fun h2=>h (qn.2 h2),if_neg h⟩
theorem look (ns:List gu) (nm:ByteArray):(∃e ∈ ns,e.f0=nm∧dN ns nm=e.f1∧0≤nameAt ns nm∧(aK ns (nameAt ns nm)).f1=e.f1)∨(nameAt ns nm = -1∧dN ns nm=0∧∀e ∈ ns,e.f0≠nm):=by
 unfold nameAt dN
 rcases yD (fun i=>decide ((aK ns (i:Int)).f0.toList=nm.toList)) ns.length 0 with ⟨j,_,j2,j3,j4⟩|⟨j1,j2⟩
 ·left;have hj:j<ns.length:=by omega
  refine⟨ns[j],List.getElem_mem hj,?_,?_,?_,?_⟩
  ·have:=of_decide_eq_true j3;rw[vt hj]at this;exact Qx this
  ·rw[j4,vt hj]
  ·rw[j4];omega
  ·rw[j4,vt hj]
 ·refine Or.inr ⟨j2 _ _,j2 _ _,fun e he hc=>?_⟩;obtain⟨i,hi,rfl⟩:=List.getElem_of_mem he;have:=j1 i (by omega) (by omega);rw[vt hi,decide_eq_false_iff_not,hc]at this;exact this rfl
theorem aga (h:oA ds ns) {e e':gu} (he:e ∈ ns) (he':e' ∈ ns) (hn:e.f0=e'.f0):e=e':=by
 obtain⟨i,hi,rfl⟩:=List.getElem_of_mem he;obtain⟨j,hj,rfl⟩:=List.getElem_of_mem he';have hp:=List.pairwise_iff_getElem.1 h.2.2.1
 rcases Nat.lt_trichotomy i j with hlt|rfl|hlt
 ·exact absurd (congrArg ByteArray.toList hn) (C5 (hp i j hi hj hlt))
 ·rfl
 ·exact absurd (congrArg ByteArray.toList hn.symm) (C5 (hp j i hj hi hlt))
theorem FC (h:oA ds ns) {e:gu} (he:e ∈ ns) (hn:e.f0=nm):dN ns nm=e.f1∧0≤nameAt ns nm∧(aK ns (nameAt ns nm)).f1=e.f1:=by
 rcases look ns nm with ⟨e',he',h1,h2,h3,h4⟩|⟨_,_,h3⟩
 ·rw[aga h he he' (hn.trans h1.symm)];exact⟨h2,h3,h4⟩
 ·exact absurd hn (h3 e he)
theorem MO (h:iO ds ns ss nx) {e:gu} (he:e ∈ ns) (hn:e.f0=nm):dt (bO ds ns ss nx) ns nm=0:=by
 unfold dt;have h1:fe nm=true:=hn▸(h.e1.2.1 e he).1;rw[qn.2 h,h1,if_pos (by decide),if_neg (by have:=(FC h.e1 he hn).2.1;omega)]
theorem afk (h:iO ds ns ss nx) (ho:fe nm=true) (hn:∀e ∈ ns,e.f0≠nm):dt (bO ds ns ss nx) ns nm=2:=by
 unfold dt;rw[qn.2 h,ho,if_pos (by decide)]
 rcases look ns nm with ⟨e,he,h1,_⟩|⟨h1,_,_⟩
 ·exact absurd h1 (hn e he)
 ·rw[if_pos (by omega)]
theorem Uc (hc:dt (bO ds ns ss nx) ns nm=0):iO ds ns ss nx∧∃e ∈ ns,e.f0=nm:=by
 obtain⟨h1,h2⟩:=aff hc;refine⟨qn.1 h1,?_⟩
 rcases look ns nm with ⟨e,he,h3,_⟩|⟨h3,_⟩
 ·exact⟨e,he,h3⟩
 ·omega
theorem FI (h:vU ds ns ss nx) {x:dA} (hx:x ∈ ds):fK ds x.f0=((ds.findIdx (fun y=>decide (y.f0=x.f0)):Nat):Int)∧ae ds (fK ds x.f0)=x:=by
 have h0:0≤fK ds x.f0:=Jw.2 ⟨x,hx,rfl⟩;obtain⟨j,hj,e1,e2⟩:=FJ h0;rw[tX hj]at e2
 have mz:ds[j]=x:=by
  obtain⟨i,hi,rfl⟩:=List.getElem_of_mem hx;have hp:=List.pairwise_iff_getElem.1 h.1
  rcases Nat.lt_trichotomy i j with hlt|rfl|hlt
  ·have:=hp i j hi hj hlt;omega
  ·rfl
  ·have:=hp j i hj hi hlt;omega
 refine⟨?_,by rw[e1,tX hj,mz]⟩;rw[e1];congr 1;refine(List.findIdx_eq hj).2 ⟨by simpa using e2,fun k hk=>?_⟩ |>.symm
 have:=List.pairwise_iff_getElem.1 h.1 k j (by omega) hj hk;rw[mz]at this;simp;omega
theorem Zh (h:vU ds ns ss nx) {x:dA} (hx:x ∈ ds) (y:dA):ds.set (fK ds x.f0).toNat y=ds.map (fun z=>if z.f0=x.f0 then y else z):=by
 obtain⟨j,hj,e1,e2⟩:=FJ (Jw.2 ⟨x,hx,rfl⟩);rw[e1,Int.toNat_natCast];rw[tX hj]at e2;refine List.ext_getElem (by simp) (fun i h1 h2=>?_);rw[List.getElem_map,List.getElem_set];have hi:i<ds.length:=by simpa using h1
 by_cases e:j=i
 ·subst e;rw[if_pos rfl,if_pos e2]
 ·rw[if_neg e,if_neg];intro hc;have hp:=List.pairwise_iff_getElem.1 h.1
  rcases Nat.lt_or_ge i j with hlt|hge
  ·have:=hp i j hi hj hlt;omega
  ·have:=hp j i hj hi (by omega);omega
theorem OS (h:iO ds ns ss nx) (f:dA→dA) (h0:∀x ∈ ds,(f x).f0=x.f0) (h2:∀x ∈ ds,0≤(f x).f2∧(f x).f2≤((f x).f1.length:Int)) (ht:gr (ds.map f)≤60000):iO (ds.map f) ns ss nx:=by
 have hk:∀(l:List gu),oA ds l→oA (ds.map f) l:=fun l hl=>hl.keep (fun e _ x hx hxe=>⟨f x,List.mem_map.2 ⟨x,hx,rfl⟩,(h0 x hx).trans hxe⟩)
 refine⟨h.n1,⟨?_,fun y hy=>?_⟩,ht,hk ns h.e1,hk ss h.e2⟩
 ·rw[List.pairwise_map];exact h.i1.1.imp_of_mem (fun ha hb hab=>by rw[h0 _ ha,h0 _ hb];exact hab)
 ·obtain⟨x,hx,rfl⟩:=List.mem_map.1 hy;obtain⟨a,b,_,_,e⟩:=h.i1.2 x hx;rw[h0 x hx];exact⟨a,b,(h2 x hx).1,(h2 x hx).2,e⟩
theorem Z7 (f:dA→dA) (ds:List dA) (hf:∀x ∈ ds,(f x).f1.length≤x.f1.length):gr (ds.map f)≤gr ds:=by
 unfold gr
 induction ds with
 |nil=>simp
 |cons x r ih=>
  simp only[List.map_cons,List.sum_cons];have:=ih (fun y hy=>hf y (List.mem_cons_of_mem _ hy));have:=hf x List.mem_cons_self;omega
theorem Z6 (f:dA→dA) (ds:List dA) (hf:∀x ∈ ds,(f x).f1.length=x.f1.length):gr (ds.map f)=gr ds:=by
 unfold gr;rw[List.map_map];congr 1;exact List.map_congr_left hf
theorem am0 (a b:List dA):gr (a++b)=gr a+gr b:=by unfold gr;simp
theorem am1 (h:ds.Pairwise (fun a b=>a.f0<b.f0)) (id:Int) (n:Nat) (f:dA→dA) (h1:∀x,x.f0=id→(f x).f1.length≤x.f1.length+n):gr (ds.map (fun z=>if z.f0=id then f z else z))≤gr ds+n:=by
 induction ds with
 |nil=>simp[gr]
 |cons x r ih=>
  obtain⟨p1,p2⟩:=List.pairwise_cons.1 h;have e:∀(l:List dA) (y:dA),gr (y::l)=y.f1.length+gr l:=fun l y=>by simp[gr]
  rw[List.map_cons,e,e];by_cases hx:x.f0=id
  ·rw[if_pos hx]
   have hr:r.map (fun z=>if z.f0=id then f z else z)=r:=by
    refine(List.map_congr_left (fun z hz=>?_)).trans (List.map_id r);have:=p1 z hz;rw[if_neg (by omega)];rfl
   rw[hr];have:=h1 x hx;omega
  ·rw[if_neg hx];have:=ih p2;omega
theorem afy (h:iO ds ns ss nx) (ho:fe nm=true) (hn:∀e ∈ ns,e.f0≠nm):n4 ds ns ss nx nm=jl ds ns ss nx (ds++[(⟨nx,[],0⟩:dA)]) (iW (⟨nm,nx⟩:gu) ns) ss (nx+1):=by
 unfold n4;rw[afk h ho hn,if_neg (by decide),if_neg (by decide),dO (by have:=h.n1;omega) (by have:=h.n1;omega)]
theorem YV (h:iO ds ns ss nx) {e:gu} (he:e ∈ ns) (hn:e.f0=nm):oU ds ns ss nx nm=(kept ds (fW ns nm) ss,fW ns nm,ss,nx,0)∧iO (kept ds (fW ns nm) ss) (fW ns nm) ss nx:=by
 have hk:iO (kept ds (fW ns nm) ss) (fW ns nm) ss nx:=OR h (by rw[KA];exact h.e1.filter _) h.e2;unfold oU;rw[MO h he hn,if_pos rfl]
 rcases yx ds ns ss nx ds (fW ns nm) ss nx with ⟨_,e⟩|⟨hc,_⟩
 ·exact⟨e,hk⟩
 ·exact absurd hk hc
theorem Zo (h:iO ds ns ss nx):oX ds ns ss nx=(kept ds ns ns,ns,ns,nx,0)∧iO (kept ds ns ns) ns ns nx:=by
 have hk:=OR h h.e1 h.e1;unfold oX;rw[qn.2 h,if_pos rfl]
 rcases yx ds ns ss nx ds ns ns nx with ⟨_,e⟩|⟨hc,_⟩
 ·exact⟨e,hk⟩
 ·exact absurd hk hc
def grow (id:Int) (b:List Int) (z:dA):dA:=if z.f0=id then ⟨z.f0,z.f1++b,z.f2⟩ else z
def sure (id:Int) (z:dA):dA:=if z.f0=id then ⟨z.f0,z.f1,(z.f1.length:Int)⟩ else z
theorem aeA (h:vU ds ns ss nx) {x:dA} (hx:x ∈ ds) (b:List Int):Au ds (fK ds x.f0).toNat b=ds.map (grow x.f0 b):=by
 obtain⟨e1,e2⟩:=FI h hx;have hj:((fK ds x.f0).toNat:Int)=fK ds x.f0:=by rw[e1,Int.toNat_natCast]
 unfold Au;rw[hj,e2,Zh h hx];refine List.map_congr_left (fun z hz=>?_);unfold grow;split
 ·rename_i hc;obtain⟨_,e3⟩:=FI h hz;rw[hc,e2]at e3;rw[←e3]
 ·rfl
theorem amP (h:vU ds ns ss nx) {x:dA} (hx:x ∈ ds):j7 ds (fK ds x.f0).toNat=ds.map (sure x.f0):=by
 obtain⟨e1,e2⟩:=FI h hx;have hj:((fK ds x.f0).toNat:Int)=fK ds x.f0:=by rw[e1,Int.toNat_natCast]
 unfold j7;rw[hj,e2,Zh h hx];refine List.map_congr_left (fun z hz=>?_);unfold sure;split
 ·rename_i hc;obtain⟨_,e3⟩:=FI h hz;rw[hc,e2]at e3;rw[←e3]
 ·rfl
theorem amZ (h:vU ds ns ss nx) (id:Int) (b:List Int):gr (ds.map (grow id b))≤gr ds+b.length:=am1 h.1 id b.length (fun z=>⟨z.f0,z.f1++b,z.f2⟩) (fun z _=>by simp)
theorem OQ (h:iO ds ns ss nx) (id:Int) (b:List Int) (ht:gr (ds.map (grow id b))≤60000):iO (ds.map (grow id b)) ns ss nx:=by
 refine OS h _ (fun x _=>by unfold grow;split<;>rfl) (fun x hx=>?_) ht;obtain⟨_,_,c,d,_⟩:=h.i1.2 x hx;unfold grow;split
 ·simp only[List.length_append];omega
 ·exact⟨c,d⟩
theorem YA (h:iO ds ns ss nx) (id:Int):iO (ds.map (sure id)) ns ss nx:=by
 refine OS h _ (fun x _=>by unfold sure;split<;>rfl) (fun x hx=>?_) ?_
 ·obtain⟨_,_,c,d,_⟩:=h.i1.2 x hx;unfold sure;split
  ·exact⟨by simp,by simp⟩
  ·exact⟨c,d⟩
 ·rw[Z6 _ _ (fun x _=>by unfold sure;split<;>rfl)];exact h.t1
theorem TG (h:iO ds ns ss nx) {e:gu} (he:e ∈ ns) (hn:e.f0=nm) (b:List Int):kg ds ns ss nx nm b=if gr (ds.map (grow e.f1 b))≤60000 then (ds.map (grow e.f1 b),ns,ss,nx,0) else (ds,ns,ss,nx,4):=by
 obtain⟨x,hx,hxe⟩:=(h.e1.2.1 e he).2;unfold kg;rw[MO h he hn,if_pos rfl,(FC h.e1 he hn).1,←hxe,aeA h.i1 hx];split
 ·rename_i ht;have hk:=OQ h x.f0 b ht;have hself:=Yi hk.i1
  rcases yx ds ns ss nx (ds.map (grow x.f0 b)) ns ss nx with ⟨_,e2⟩|⟨hc,_⟩
  ·rw[e2,hself]
  ·rw[hself]at hc;exact absurd hk hc
 ·rename_i ht
  have hself:kept (ds.map (grow x.f0 b)) ns ss=ds.map (grow x.f0 b):=by
   refine Yi (nx:=nx) ⟨?_,fun y hy=>?_⟩
   ·rw[List.pairwise_map];exact h.i1.1.imp (fun hab=>by unfold grow;split<;>split<;>exact hab)
   ·obtain⟨z,hz,rfl⟩:=List.mem_map.1 hy;obtain⟨a1,a2,a3,a4,a5⟩:=h.i1.2 z hz;unfold grow;split
    ·exact⟨a1,a2,a3,by simp only[List.length_append];omega,a5⟩
    ·exact⟨a1,a2,a3,a4,a5⟩
  rcases yx ds ns ss nx (ds.map (grow x.f0 b)) ns ss nx with ⟨hc,_⟩|⟨_,e2⟩
  ·rw[hself]at hc;exact absurd hc.t1 ht
  ·exact e2
theorem Zp (h:iO ds ns ss nx) {e:gu} (he:e ∈ ns) (hn:e.f0=nm):nJ ds ns ss nx nm=(ds.map (sure e.f1),ns,ss,nx,0):=by
 obtain⟨x,hx,hxe⟩:=(h.e1.2.1 e he).2;unfold nJ;rw[MO h he hn,if_pos rfl,(FC h.e1 he hn).1,←hxe,amP h.i1 hx]
theorem agD (h:iO ds ns ss nx) {keep:Int} (hk:0≤keep):uQ (bO ds ns ss nx) ds ns ss nx keep=((ds.filter (fun x=>named ss x.f0)).map (nu keep),ss,ss,nx):=by
 unfold uQ;rw[if_pos ⟨qn.2 h,hk⟩];have:=YL ds gV (fun x=>named ss x.f0)
 have e2:((List.range ds.length).filter (fun (i:Nat)=>named ss (ae ds (i:Int)).f0)).map (fun (i:Nat)=>nu keep (ae ds (i:Int)))=(((List.range ds.length).filter (fun (i:Nat)=>named ss (ds.getD i gV).f0)).map (fun (i:Nat)=>ds.getD i gV)).map (nu keep):=by
  rw[List.map_map];unfold ae;simp only[Int.toNat_natCast];rfl
 rw[e2,this]
theorem Dv {keep:Int} (hk:0≤keep) {x:dA} (h:0≤x.f2∧x.f2≤(x.f1.length:Int)):(nu keep x).f0=x.f0∧(nu keep x).f2=((nu keep x).f1.length:Int)∧(∃n,x.f2.toNat≤n∧(nu keep x).f1=x.f1.take n):=by
 unfold nu;split
 ·refine⟨rfl,?_,(x.f2+keep).toNat,by omega,rfl⟩;simp only[List.length_take];omega
 ·exact⟨rfl,rfl,x.f1.length,by omega,by rw[List.take_length]⟩
theorem alG (h:iO ds ns ss nx) {keep:Int} (hk:0≤keep):iO ((ds.filter (fun x=>named ss x.f0)).map (nu keep)) ss ss nx:=by
 have h1:=OR h h.e2 h.e2;rw[wW]at h1;simp only[Bool.or_self]at h1;have hf:∀x ∈ ds.filter (fun x=>named ss x.f0),0≤x.f2∧x.f2≤(x.f1.length:Int):=fun x hx=>⟨(h1.i1.2 x hx).2.2.1,(h1.i1.2 x hx).2.2.2.1⟩
 refine OS h1 _ (fun x hx=>(Dv hk (hf x hx)).1) (fun x hx=>?_) (Nat.le_trans (Z7 _ _ (fun x hx=>?_)) h1.t1)
 ·rw[(Dv hk (hf x hx)).2.1];exact⟨by omega,Int.le_refl _⟩
 ·obtain⟨n,_,e⟩:=(Dv hk (hf x hx)).2.2;rw[e,List.length_take];omega
theorem MF (h:iO ds ns ss nx) {e:gu} (he:e ∈ ns) (hn:e.f0=nm) {x:dA} (hx:x ∈ ds) (hxe:x.f0=e.f1):jx (bO ds ns ss nx) ds ns nm=(x.f1,true):=by
 obtain⟨_,h2,h3⟩:=FC h.e1 he hn;unfold jx;rw[if_pos ⟨qn.2 h,h2⟩,h3,←hxe,(FI h.i1 hx).2]
theorem aeN {ok:Bool} (hn:∀e ∈ ns,e.f0≠nm):jx ok ds ns nm=([],false):=by
 unfold jx
 rcases look ns nm with ⟨e,he,h1,_⟩|⟨h1,_,_⟩
 ·exact absurd h1 (hn e he)
 ·rw[if_neg (fun hc=>by omega)]
end
def Bd (ds:List dA):Prop:=∀x ∈ ds,bJ x.f1
theorem Bd.kept {ds:List dA} {ns ss:List gu} (h:Bd ds):Bd (kept ds ns ss):=fun x hx=>h x (Yh hx)
theorem Bd.app {ds:List dA} {n:Int} (h:Bd ds):Bd (ds++[(⟨n,[],0⟩:dA)]):=fun x hx=>by
 rcases List.mem_append.1 hx with hx|hx
 ·exact h x hx
 ·rw[List.mem_singleton.1 hx];exact bJ.nil
theorem Bd.grow {ds:List dA} {id:Int} {b:List Int} (h:Bd ds) (hb:bJ b):Bd (ds.map (grow id b)):=fun x hx=>by
 obtain⟨y,hy,rfl⟩:=List.mem_map.1 hx;unfold MZ.grow;split
 ·exact(h y hy).append hb
 ·exact h y hy
theorem Bd.sure {ds:List dA} {id:Int} (h:Bd ds):Bd (ds.map (sure id)):=fun x hx=>by
 obtain⟨y,hy,rfl⟩:=List.mem_map.1 hx;unfold MZ.sure;split
 ·exact h y hy
 ·exact h y hy
theorem bJ.take {b:List Int} (h:bJ b) (n:Nat):bJ (b.take n):=bJ.vo (fun x hx=>h.mem x (List.mem_of_mem_take hx))
section
variable {ds:List dA} {ns ss:List gu} {nx:Int} {nm nq:ByteArray}
end
structure Gd (P:ByteArray→Prop) (m:Nat) (d:ik):Prop where
 ok:yd d
 tt:gr d.f0≤m
 g1:∀e ∈ d.f1,P e.f0
 g2:∀e ∈ d.f2,P e.f0
 bb:Bd d.f0
section
variable {P:ByteArray→Prop} {m m':Nat} {d:ik} {nm nq:ByteArray}
theorem Gd.more (h:Gd P m d) (hm:m≤m'):Gd P m' d:=⟨h.ok,Nat.le_trans h.tt hm,h.g1,h.g2,h.bb⟩
theorem Gd.ends (h:Gd P m d) {ds:List dA} {ns ss:List gu} {nx:Int} (ht:gr ds≤m) (g1:∀e ∈ ns,P e.f0) (g2:∀e ∈ ss,P e.f0) (hb:Bd ds):Gd P m (bR (jl d.f0 d.f1 d.f2 d.f3 ds ns ss nx)):=by
 rcases yx d.f0 d.f1 d.f2 d.f3 ds ns ss nx with ⟨h1,e⟩|⟨_,e⟩
 ·rw[e];exact⟨h1,Nat.le_trans (by rw[wW];exact Kt _ _) ht,g1,g2,hb.kept⟩
 ·rw[e];exact h
theorem Gd.create (h:Gd P m d) (hn:P nm):Gd P m (bR (n4 d.f0 d.f1 d.f2 d.f3 nm)):=by
 unfold n4;split
 ·exact h
 ·split
  ·exact h
  ·exact h.ends (by rw[am0];simpa[gr] using h.tt) (fun e he=>by rcases FL he with rfl|he;exact hn;exact h.g1 e he) h.g2 h.bb.app
theorem Gd.append (h:Gd P m d) (b:List Int) (hb:bJ b):Gd P (m+b.length) (bR (kg d.f0 d.f1 d.f2 d.f3 nm b)):=by
 by_cases hc:dt (bO d.f0 d.f1 d.f2 d.f3) d.f1 nm=0
 ·obtain⟨_,e,he,hn⟩:=Uc hc;rw[TG h.ok he hn];split
  ·rename_i ht;exact⟨OQ h.ok e.f1 b ht,Nat.le_trans (amZ h.ok.i1 e.f1 b) (by have:=h.tt;show gr d.f0+b.length≤_;omega),h.g1,h.g2,h.bb.grow hb⟩
  ·exact h.more (Nat.le_add_right _ _)
 ·unfold kg;rw[if_neg hc];exact h.more (Nat.le_add_right _ _)
theorem Gd.sync (h:Gd P m d):Gd P m (bR (nJ d.f0 d.f1 d.f2 d.f3 nm)):=by
 by_cases hc:dt (bO d.f0 d.f1 d.f2 d.f3) d.f1 nm=0
 ·obtain⟨_,e,he,hn⟩:=Uc hc;rw[Zp h.ok he hn];exact⟨YA h.ok e.f1,by show gr (d.f0.map _)≤m;rw[Z6 _ _ (fun x _=>by unfold sure;split<;>rfl)];exact h.tt,h.g1,h.g2,h.bb.sure⟩
 ·unfold nJ;rw[if_neg hc];exact h
theorem Gd.BF (h:Gd P m d):Gd P m (bR (oX d.f0 d.f1 d.f2 d.f3)):=by
 obtain⟨e,hk⟩:=Zo h.ok;rw[e];exact⟨hk,Nat.le_trans (by show gr (kept _ _ _)≤gr d.f0;rw[wW];exact Kt _ _) h.tt,h.g1,h.g1,h.bb.kept⟩
theorem Gd.remove (h:Gd P m d):Gd P m (bR (oU d.f0 d.f1 d.f2 d.f3 nm)):=by
 unfold oU;split
 ·exact h.ends h.tt (fun e he=>h.g1 e (BU he)) h.g2 h.bb
 ·exact h
theorem Gd.rename (h:Gd P m d) (hn:P nq):Gd P m (bR (oV d.f0 d.f1 d.f2 d.f3 nm nq)):=by
 unfold oV;split
 ·exact h
 ·split
  ·split
   ·exact h
   ·refine h.ends h.tt (fun e he=>?_) h.g2 h.bb
    rcases FL he with rfl|he
    ·exact hn
    ·exact h.g1 e (BU (BU he))
  ·exact h
theorem Gd.UG (h:Gd P m d) {keep:Int} (hk:0≤keep):Gd P m ⟨(uQ (bO d.f0 d.f1 d.f2 d.f3) d.f0 d.f1 d.f2 d.f3 keep).1,(uQ (bO d.f0 d.f1 d.f2 d.f3) d.f0 d.f1 d.f2 d.f3 keep).2.1,(uQ (bO d.f0 d.f1 d.f2 d.f3) d.f0 d.f1 d.f2 d.f3 keep).2.2.1,(uQ (bO d.f0 d.f1 d.f2 d.f3) d.f0 d.f1 d.f2 d.f3 keep).2.2.2⟩:=by
 rw[agD h.ok hk];refine⟨alG h.ok hk,Nat.le_trans (Z7 _ _ (fun x hx=>?_)) (Nat.le_trans (Kt _ _) h.tt),h.g2,h.g2,fun x hx=>?_⟩
 ·have:=h.ok.i1.2 x (List.mem_filter.1 hx).1;obtain⟨n,_,e⟩:=(Dv hk ⟨this.2.2.1,this.2.2.2.1⟩).2.2;rw[e,List.length_take];omega
 ·obtain⟨y,hy,rfl⟩:=List.mem_map.1 hx;have:=h.ok.i1.2 y (List.mem_filter.1 hy).1;obtain⟨n,_,e⟩:=(Dv hk ⟨this.2.2.1,this.2.2.2.1⟩).2.2;rw[e];exact(h.bb y (List.mem_filter.1 hy).1).take n
end
end Go.Proofs.YtingkpnoiekliaaGreat.MZ
end
section
namespace Go.Proofs.YtingkpnoiekliaaGreat.MZ
open Go.RowKit Go.Proofs.YtingkpnoiekliaaGreatW.PrintWords Go.Proofs.YtingkpnoiekliaaGreatW.PrintLast Go.Proofs.YtingkpnoiekliaaGreatW.PrintMore Go.Proofs.YtingkpnoiekliaaGreat.MWords Go.Proofs.YtingkpnoiekliaaGreat.MZ
set_option linter.unusedVariables false
def Fs (b:Nat) (ok:Nat→Prop) (cs:Array Value) (d:Dk) (W:World):Prop:=∃v0 v1 v2,cs=#[v0,v1,v2,.int .i64 d.f3]∧Kd.S bf 63 W b (fun k=>ok k∧some k≠v1.ownBlock∧some k≠v2.ownBlock) v0 d.f0∧Kd.R ak 89 W b (fun k=>ok k∧some k≠v2.ownBlock) v1 d.f1∧Kd.R ak 89 W b (fun k=>ok k∧some k≠v1.ownBlock) v2 d.f2
abbrev Fe (b:Nat) (cs:Array Value) (d:Dk) (W:World):Prop:=Fs b (fun k=>b≤k) cs d W
section
variable {b b':Nat} {ok ok':Nat→Prop} {cs:Array Value} {d:Dk} {w w' W:World}
theorem Fs.fr (h:Fs b ok cs d W):Fr b ok cs d W:=by
 obtain⟨v0,v1,v2,e,h0,h1,h2⟩:=h;exact⟨v0,v1,v2,e,Kd.yg h0,h1,h2⟩
theorem Fs.bM (h:Fs b ok cs d W):cH cs d W:=h.fr.bM
theorem Fs.size (h:Fs b ok cs d W):cs.size=4:=h.bM.size
theorem Fs.mono (h:Fs b ok cs d W) (hb:b'≤b) (hk:∀k,ok k→ok' k):Fs b' ok' cs d W:=by
 obtain⟨v0,v1,v2,e,h0,h1,h2⟩:=h;exact⟨v0,v1,v2,e,Kd.nV (Kd.eu h0 (fun k h=>⟨hk k h.1,h.2⟩)) hb,Kd.bT (Kd.aw h1 (fun k h=>⟨hk k h.1,h.2⟩)) hb,Kd.bT (Kd.aw h2 (fun k h=>⟨hk k h.1,h.2⟩)) hb⟩
theorem Fs.low (h:Fe b cs d W) (hb:b'≤b):Fe b' cs d W:=Fs.mono h hb (fun k hk=>Nat.le_trans hb hk)
theorem Fs.wD (h:Fs b ok cs d W):Foot (Fs b ok cs d) W ok:=fun W' hW=>by
 obtain⟨v0,v1,v2,e,h0,h1,h2⟩:=h;exact⟨v0,v1,v2,e,Kd.CW h0 (fun k hk=>hW k hk.1),Kd.nR h1 (fun k hk=>hW k hk.1),Kd.nR h2 (fun k hk=>hW k hk.1)⟩
theorem wE {p0 p1 p2:Nat→Prop} {v0 v1 v2:Value} {U:List aj} {l1 l2:List ab} {n:Int} (h0:Kd.S bf 63 W b p0 v0 U) (h1:Kd.R ak 89 W b p1 v1 l1) (h2:Kd.R ak 89 W b p2 v2 l2) (q1:∀k,p1 k→some k≠v2.ownBlock:=by exact fun _ h=>h) (q2:∀k,p2 k→some k≠v1.ownBlock:=by exact fun _ h=>h):Fe b #[v0,v1,v2,.int .i64 n] ⟨U,l1,l2,n⟩ W:=
 ⟨v0,v1,v2,rfl,Kd.eu (Kd.nU (Kd.nS (Kd.nS h0 (Kd.fj h1) (by decide)) (Kd.fj h2) (by decide))) (fun k h=>⟨h.2.1,h.1.1.2,h.1.2⟩),Kd.aw (Kd.jb h1) (fun k h=>⟨h.2.1,q1 k h.1⟩),Kd.aw (Kd.jb h2) (fun k h=>⟨h.2.1,q2 k h.1⟩)⟩
def Rz (w w':World) (cs:Array Value) (d:Dk):Prop:=Foot (Fe w.heap.size cs d) w' (fun k=>w.heap.size≤k)∧Below w.heap.size w w'
theorem Fs.rz (h:Fe w.heap.size cs d w') (hb:Below w.heap.size w w'):Rz w w' cs d:=⟨Fs.wD h,hb⟩
theorem Rz.rs (h:Rz w w' cs d):Rs w w' cs d:=⟨h.1.imp (fun _ h=>h.bM),h.2⟩
end
def Pd (w:World) (r:dG) (e:Ending) (w':World):Prop:=∃cs',e = .returned (.tuple #[.agg cs',.int .i64 r.2.2.2.2])∧Rz w w' cs' (bR r)
def Rb (w w':World) (A:Option Addr) (c:Nat) (l:List Int):Prop:=l.length≤c∧Foot (fun W=>Kd.C (Kd.int .u8) W A l.length l) w' (fun k=>w.heap.size≤k)∧Below w.heap.size w w'
theorem PV {w w':World} {p:Nat→Prop} {v:Value} {l:List Int} (h:Kd.R (Kd.int .u8) 5 w' w.heap.size p v l) (hb:Below w.heap.size w w'):∃A c,v = .slice A l.length c∧Rb w w' A c l:=by
 have g:=Kd.jb h;obtain⟨A,c,rfl,e,_⟩:=Kd.lT g;exact⟨A,c,rfl,e,Kd.Cg (Kd.Mb g) (fun k hk=>hk.2.1),hb⟩
section
variable {w:World} {cs:Array Value} {d:Dk} {nm:ByteArray} {r:dG}
theorem T9 (hr:n4 d.f0 d.f1 d.f2 d.f3 nm=r) (hd:cH cs d w) (hs:Small d.f0 d.f1 d.f2) (hn:nm.size≤9223372036854775807):Calls Tryz.prog 101 #[.agg cs,.string nm] w (Pd w r):=by
 subst hr;obtain⟨K,hk⟩:=akH d.f0 d.f1 d.f2 d.f3 nm hn hs;obtain⟨A0,c0,A1,c1,A2,c2,rfl,U,g0,l1,g1,l2,g2⟩:=hd.open;exact(FD.calls K _ _ _ _ _ _ _ _ _ _ _ _ _ _ _ _ w g0 U g1 l1 g2 l2 (hk K (Nat.le_refl _))).mono (fun e w' ⟨v0,v1,v2,he,h0,h1,h2,hb⟩=>⟨_,he,Fs.rz (wE h0 h1 h2) hb⟩)
theorem afd (hr:nJ d.f0 d.f1 d.f2 d.f3 nm=r) (hd:cH cs d w) (hs:Small d.f0 d.f1 d.f2) (hn:nm.size≤9223372036854775807):Calls Tryz.prog 102 #[.agg cs,.string nm] w (Pd w r):=by
 subst hr;obtain⟨K,hk⟩:=akQ d.f0 d.f1 d.f2 d.f3 nm hn hs;obtain⟨A0,c0,A1,c1,A2,c2,rfl,U,g0,l1,g1,l2,g2⟩:=hd.open;exact(FG.calls K _ _ _ _ _ _ _ _ _ _ _ _ _ _ _ _ w g0 U g1 l1 g2 l2 (hk K (Nat.le_refl _))).mono (fun e w' ⟨v0,v1,v2,he,h0,h1,h2,hb⟩=>⟨_,he,Fs.rz (wE h0 h1 h2) hb⟩)
theorem afe (hr:oX d.f0 d.f1 d.f2 d.f3=r) (hd:cH cs d w) (hs:Small d.f0 d.f1 d.f2):Calls Tryz.prog 70 #[.agg cs] w (Pd w r):=by
 subst hr;obtain⟨K,hk⟩:=akP d.f0 d.f1 d.f2 d.f3 hs;obtain⟨A0,c0,A1,c1,A2,c2,rfl,U,g0,l1,g1,l2,g2⟩:=hd.open;exact(FH.calls K _ _ _ _ _ _ _ _ _ _ _ _ _ _ _ w g0 U g1 l1 g2 l2 (hk K (Nat.le_refl _))).mono (fun e w' ⟨v0,v1,v2,he,h0,h1,h2,hb⟩=>⟨_,he,Fs.rz (wE h0 h1 h2) hb⟩)
theorem ae4 {b:List Int} {A:Option Addr} {c:Nat} (hr:kg d.f0 d.f1 d.f2 d.f3 nm b=r) (hd:cH cs d w) (hs:Small d.f0 d.f1 d.f2) (hn:nm.size≤9223372036854775807) (hl:∀x ∈ d.f0,x.f1.length≤1048576) (hb:b.length≤1048600) (gb:Kd.C (Kd.int .u8) w A b.length b) (lb:b.length≤c):Calls Tryz.prog 41 #[.agg cs,.string nm,.slice A b.length c] w (Pd w r):=by
 subst hr;obtain⟨K,hk⟩:=X0 d.f0 d.f1 d.f2 d.f3 nm b hn hs hl hb;obtain⟨A0,c0,A1,c1,A2,c2,rfl,U,g0,l1,g1,l2,g2⟩:=hd.open;exact(uW.calls K _ _ _ _ _ _ _ _ _ _ _ _ _ _ _ _ _ _ _ w g0 U g1 l1 g2 l2 gb lb (hk K (Nat.le_refl _))).mono (fun e w' ⟨v0,v1,v2,he,h0,h1,h2,hb⟩=>⟨_,he,Fs.rz (wE h0 h1 h2) hb⟩)
theorem ae9 (hr:oU d.f0 d.f1 d.f2 d.f3 nm=r) (hd:cH cs d w) (hs:Small d.f0 d.f1 d.f2) (hn:nm.size≤9223372036854775807):Calls Tryz.prog 100 #[.agg cs,.string nm] w (Pd w r):=by
 subst hr;obtain⟨K,hk⟩:=akN d.f0 d.f1 d.f2 d.f3 nm hn hs;obtain⟨A0,c0,A1,c1,A2,c2,rfl,U,g0,l1,g1,l2,g2⟩:=hd.open;exact(FE.calls K _ _ _ _ _ _ _ _ _ _ _ _ _ _ _ _ w g0 U g1 l1 g2 l2 (hk K (Nat.le_refl _))).mono (fun e w' ⟨v0,v1,v2,he,h0,h1,h2,hb⟩=>⟨_,he,Fs.rz (wE h0 h1 h2) hb⟩)
theorem afa {nq:ByteArray} (hr:oV d.f0 d.f1 d.f2 d.f3 nm nq=r) (hd:cH cs d w) (hs:Small d.f0 d.f1 d.f2) (hn:nm.size≤9223372036854775807) (ht:nq.size≤9223372036854775807):Calls Tryz.prog 69 #[.agg cs,.string nm,.string nq] w (Pd w r):=by
 subst hr;obtain⟨K,hk⟩:=akO d.f0 d.f1 d.f2 d.f3 nm nq hn ht hs;obtain⟨A0,c0,A1,c1,A2,c2,rfl,U,g0,l1,g1,l2,g2⟩:=hd.open;exact(FF.calls K _ _ _ _ _ _ _ _ _ _ _ _ _ _ _ _ _ w g0 U g1 l1 g2 l2 (hk K (Nat.le_refl _))).mono (fun e w' ⟨v0,v1,v2,he,h0,h1,h2,hb⟩=>⟨_,he,Fs.rz (wE h0 h1 h2) hb⟩)
theorem Ay (hd:cH cs d w) (hs:Small d.f0 d.f1 d.f2):Calls Tryz.prog 27 #[.agg cs] w (fun e w'=>∃cs',e = .returned (.agg cs')∧Rz w w' cs' d):=by
 obtain⟨K,hk⟩:=hs.HE d.f3;obtain⟨A0,c0,A1,c1,A2,c2,rfl,U,g0,l1,g1,l2,g2⟩:=hd.open;exact(fJ.calls K _ _ _ _ _ _ _ _ _ _ _ _ _ _ w g0 U g1 l1 g2 l2 (hk K (Nat.le_refl _))).mono (fun e w' ⟨v0,v1,v2,he,h0,h1,h2,hb⟩=>⟨_,he,Fs.rz (wE h0 h1 h2) hb⟩)
theorem Db {l:List Int} {b:Bool} (he:jx (bO d.f0 d.f1 d.f2 d.f3) d.f0 d.f1 nm=(l,b)) (hd:cH cs d w) (hs:Small d.f0 d.f1 d.f2) (hl:∀x ∈ d.f0,x.f1.length≤1048576):Calls Tryz.prog 9 #[.agg cs,.string nm] w fun e w'=>∃A c,e = .returned (.tuple #[.slice A l.length c,.bool b])∧Rb w w' A c l:=by
 obtain⟨K,hk⟩:=akG d.f0 d.f1 d.f2 d.f3 nm hs.h0 hl hs.h1 hs.h2 hs.z1 hs.z2;rw[he]at hk;obtain⟨A0,c0,A1,c1,A2,c2,rfl,U,g0,l1,g1,l2,g2⟩:=hd.open;refine(iV.calls K _ _ _ _ _ _ _ _ _ _ nm _ _ w g0 U g1 l1 g2 l2 (hk K (Nat.le_refl _))).mono (fun e w' ⟨v0,he,h0,hb⟩=>?_);obtain⟨A,c,rfl,r⟩:=PV h0 hb;exact⟨A,c,he,r⟩
theorem Y2 {l:List Int} {b:Bool} (he:jx (bO d.f0 d.f1 d.f2 d.f3) d.f0 d.f1 nm=(l,b)) (hd:cH cs d w) (hs:Small d.f0 d.f1 d.f2) (hl:∀x ∈ d.f0,x.f1.length≤1048576) (hn:nm.size≤9223372036854775807):Calls Tryz.prog 32 #[.agg cs,.string nm] w fun e w'=>∃A c,e = .returned (.tuple #[.slice A l.length c,.bool b])∧Rb w w' A c l:=by
 obtain⟨K,hk⟩:=amq d.f0 d.f1 d.f2 d.f3 nm hn hs.h0 hl hs.h1 hs.h2 hs.z1 hs.z2;rw[he]at hk;obtain⟨A0,c0,A1,c1,A2,c2,rfl,U,g0,l1,g1,l2,g2⟩:=hd.open;refine(pN.calls K _ _ _ _ _ _ _ _ _ _ nm _ _ w g0 U g1 l1 g2 l2 (hk K (Nat.le_refl _))).mono (fun e w' ⟨v0,he,h0,hb⟩=>?_);obtain⟨A,c,rfl,r⟩:=PV h0 hb;exact⟨A,c,he,r⟩
theorem Dc (hd:cH cs d w) (hs:Small d.f0 d.f1 d.f2):Calls Tryz.prog 11 #[.agg cs] w fun e w'=>e = .returned (.bool (bO d.f0 d.f1 d.f2 d.f3))∧Below w.heap.size w w':=Ub hd hs
theorem Dd (hd:cH cs d w) (hs:Small d.f0 d.f1 d.f2):Calls Tryz.prog 28 #[.agg cs,.string nm] w (fun e w'=>e = .returned (.int .i64 (dN d.f1 nm))∧Below w.heap.size w w'):=by
 obtain⟨K,hk⟩:=yN d.f0 d.f1 d.f2 d.f3 nm hs.h1;obtain⟨A0,c0,A1,c1,A2,c2,rfl,U,g0,l1,g1,l2,g2⟩:=hd.open;exact fq.calls K _ _ _ _ _ _ _ _ _ _ nm _ w g0 U g1 l1 g2 l2 (hk K (Nat.le_refl _))
end
end Go.Proofs.YtingkpnoiekliaaGreat.MZ
end
section
namespace Go.Proofs.YtingkpnoiekliaaGreat.MZ
open Go.RowKit Go.Proofs.YtingkpnoiekliaaGreatW.PrintWords Go.Proofs.YtingkpnoiekliaaGreatW.PrintLast Go.Proofs.YtingkpnoiekliaaGreatW.PrintMore Go.Proofs.YtingkpnoiekliaaGreat.MWords Go.Proofs.YtingkpnoiekliaaGreat.MZ
set_option linter.unusedVariables false
def Pe (w:World) (r:dG) (e:Ending) (w':World):Prop:=∃cs',e = .returned (.tuple #[.agg cs',.int .i64 r.2.2.2.2])∧Rf w w' cs' ⟨r.1,r.2.1,r.2.2.1,r.2.2.2.1⟩
def Pg (w:World) (r:List aj × List ab × List ab × Int) (e:Ending) (w':World):Prop:=∃cs',e = .returned (.agg cs')∧Rf w w' cs' ⟨r.1,r.2.1,r.2.2.1,r.2.2.2⟩
section
variable {w:World} {cs:Array Value} {d:Dk} {nm:ByteArray}
theorem P4 (hd:cH cs d w) (hs:Small d.f0 d.f1 d.f2) (hn:nm.size≤9223372036854775807):Calls Tryz.prog 62 #[.agg cs,.string nm] w (Pe w (nJ d.f0 d.f1 d.f2 d.f3 nm)):=by
 obtain⟨K,hk⟩:=amw d.f0 d.f1 d.f2 d.f3 nm hn hs;obtain⟨A0,c0,A1,c1,A2,c2,rfl,U,g0,l1,g1,l2,g2⟩:=hd.open;exact(kx.calls K _ _ _ _ _ _ _ _ _ _ _ _ _ _ _ _ w g0 U g1 l1 g2 l2 (hk K (Nat.le_refl _))).mono (fun e w' ⟨v0,v1,v2,he,h0,h1,h2,hb⟩=>⟨_,he,Fr.rf (Ns h0 h1 h2) hb⟩)
theorem J4 {b:List Int} {A:Option Addr} {c:Nat} (hd:cH cs d w) (hs:Small d.f0 d.f1 d.f2) (hn:nm.size≤9223372036854775807) (hl:∀x ∈ d.f0,x.f1.length≤1048576) (hb:b.length≤1048600) (gb:Kd.C (Kd.int .u8) w A b.length b) (lb:b.length≤c):Calls Tryz.prog 65 #[.agg cs,.string nm,.slice A b.length c] w (Pe w (kg d.f0 d.f1 d.f2 d.f3 nm b)):=by
 obtain⟨K,hk⟩:=Zi d.f0 d.f1 d.f2 d.f3 nm b hn hs hl hb;obtain⟨A0,c0,A1,c1,A2,c2,rfl,U,g0,l1,g1,l2,g2⟩:=hd.open;exact(js.calls K _ _ _ _ _ _ _ _ _ _ _ _ _ _ _ _ _ _ _ w g0 U g1 l1 g2 l2 gb lb (hk K (Nat.le_refl _))).mono (fun e w' ⟨v0,v1,v2,he,h0,h1,h2,hb⟩=>⟨_,he,Fr.rf ⟨v0,v1,v2,rfl,h0,h1,h2⟩ hb⟩)
theorem Y5 {keep:Int} (hd:cH cs d w) (hs:Small d.f0 d.f1 d.f2) (hl:∀x ∈ d.f0,x.f1.length≤1048576) (uT:keep≤9223372036854775807):Calls Tryz.prog 64 #[.agg cs,.int .i64 keep] w (Pg w (uQ (bO d.f0 d.f1 d.f2 d.f3) d.f0 d.f1 d.f2 d.f3 keep)):=by
 obtain⟨K,hk⟩:=ams d.f0 d.f1 d.f2 d.f3 keep hs.h0 hl hs.h1 hs.h2 hs.z1 hs.z2 uT;obtain⟨A0,c0,A1,c1,A2,c2,rfl,U,g0,l1,g1,l2,g2⟩:=hd.open;exact(dF.calls K _ _ _ _ _ _ _ _ _ _ _ _ _ _ _ w g0 U g1 l1 g2 l2 (hk K (Nat.le_refl _))).mono (fun e w' ⟨v0,v1,v2,he,h0,h1,h2,hb⟩=>⟨_,he,Fr.rf ⟨v0,v1,v2,rfl,h0,h1,h2⟩ hb⟩)
end
end Go.Proofs.YtingkpnoiekliaaGreat.MZ
end
