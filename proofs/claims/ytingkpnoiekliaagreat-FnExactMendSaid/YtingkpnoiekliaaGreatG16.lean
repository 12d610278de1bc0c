/- Walks and plain laws, put together: no condition of their own. -/
import Derived.Test.YtingkpnoiekliaaGreatMPD
import Derived.Test.YtingkpnoiekliaaGreatG1
import Derived.Test.YtingkpnoiekliaaGreatG10
section
set_option linter.unusedVariables false
set_option linter.unusedSimpArgs false
namespace Go.Proofs.YtingkpnoiekliaaGreat.MZ
open Go.RowKit Go.Proofs.YtingkpnoiekliaaGreat.MZ Go.Proofs.YtingkpnoiekliaaGreatW.PrintWords Go.Proofs.YtingkpnoiekliaaGreatW.PrintLast Go.Proofs.YtingkpnoiekliaaGreatW.PrintMore
abbrev dH:=al
abbrev gO:=aa
theorem tw {l:List dH} {i:Nat} (h:i<l.length):ai l (i:Int)=l[i]:=by unfold ai;simp[List.getD_eq_getElem?_getD,h]
theorem uQ {l:List gO} {i:Nat} (h:i<l.length):aG l (i:Int)=l[i]:=by unfold aG;simp[List.getD_eq_getElem?_getD,h]
theorem Pj {p:Nat→Bool} {n:Nat}:eT p (fun _=>true) false 0 n=false↔∀i,i<n→p i=false:=by
 refine⟨fun h i hi=>EJ _ _ h i (by omega) (by omega),fun h=>Bool.eq_false_iff.2 (fun hc=>?_)⟩;obtain⟨j,_,h2,h3⟩:=Po _ _ hc;rw[h j (by omega)]at h3;cases h3
theorem tr {l:List gO} {id:Int}:named l id=true↔∃e ∈ l,e.f1=id:=by
 refine⟨fun h=>?_,fun ⟨e,he,h⟩=>?_⟩
 ·obtain⟨e,he,h⟩:=List.mem_map.1 (Q9 h);exact⟨e,he,h⟩
 ·cases hn:named l id with
  |true=>rfl
  |false=>
   obtain⟨i,hi,rfl⟩:=List.getElem_of_mem he;have:=Pj.1 hn i hi;rw[uQ hi,decide_eq_false_iff_not]at this;exact absurd h this
theorem alz {ds:List dH} {id:Int} (h:fo ds id<0):∀x ∈ ds,x.f0≠id:=by
 unfold fo at h
 rcases yQ (fun i=>decide ((ai ds (i:Int)).f0=id)) ds.length 0 with ⟨j,_,_,_,j4⟩|⟨j1,_⟩
 ·rw[j4]at h;omega
 ·intro x hx;obtain⟨i,hi,rfl⟩:=List.getElem_of_mem hx;have:=j1 i (by omega) (by omega);rw[tw hi]at this;exact of_decide_eq_false this
theorem KL {ds:List dH} {id:Int}:0≤fo ds id↔∃x ∈ ds,x.f0=id:=by
 refine⟨fun h=>?_,fun ⟨x,hx,h⟩=>?_⟩
 ·obtain⟨j,hj,_,e⟩:=Ht h;rw[tw hj]at e;exact⟨_,List.getElem_mem hj,e⟩
 ·rcases Int.lt_or_le (fo ds id) 0 with hn|hn
  ·exact absurd h (alz hn x hx)
  ·exact hn
def oe (ds:List dH) (l:List gO):Prop:=l.length≤30∧(∀e ∈ l,fv e.f0=true∧∃x ∈ ds,x.f0=e.f1)∧l.Pairwise sy∧l.Pairwise (fun a b=>a.f1≠b.f1)
theorem JB {ds:List dH} {l:List gO}:gZ ds l=true↔oe ds l:=by
 have h0:gZ ds l=true↔(∀i,i<l.length→na ds l i=false)∧l.length≤30:=by
  unfold gZ;rw[yP,Bool.and_eq_true,decide_eq_true_eq,Bool.not_eq_true',Pj];constructor<;>exact fun h=>⟨h.1,by have:=h.2;omega⟩
 constructor
 ·intro h;have hr:=JD h;obtain⟨hb,hl⟩:=h0.1 h;refine⟨hl,fun e he=>?_,hr,List.pairwise_iff_getElem.2 (fun i j hi hj hij hc=>?_)⟩
  ·obtain⟨i,hi,rfl⟩:=List.getElem_of_mem he;obtain⟨a,b⟩:=VT h i hi;rw[uQ hi]at a b;exact⟨a,KL.1 b⟩
  ·have:=hb j hj;unfold na at this;rw[Bool.or_eq_false_iff,uQ hj]at this;have hn:named (l.take j) l[j].f1=true:=tr.2 ⟨l[i],List.mem_iff_getElem.2 ⟨i,by rw[List.length_take];omega,List.getElem_take⟩,hc⟩;rw[this.2]at hn;cases hn
 ·rintro⟨hl,h1,h2,h3⟩;refine h0.2 ⟨fun i hi=>?_,hl⟩;obtain⟨a,b⟩:=h1 _ (List.getElem_mem hi);unfold na;rw[uQ hi,a,Bool.not_true,Bool.false_or,decide_eq_false (by have:=KL.2 b;omega),Bool.false_or,Bool.or_eq_false_iff];constructor
  ·rcases Nat.eq_zero_or_pos i with rfl|hp
   ·rfl
   ·have:=List.pairwise_iff_getElem.1 h2 (i-1) i (by omega) hi (by omega);rw[decide_eq_true hp,Bool.true_and,uQ (by omega)];have e:Op.bytesLess l[i-1].f0.toList l[i].f0.toList=true:=this;rw[e];rfl
  ·refine Bool.eq_false_iff.2 (fun hn=>?_);obtain⟨e,he,hc⟩:=tr.1 hn;obtain⟨j,hj,rfl⟩:=List.getElem_of_mem he;rw[List.length_take]at hj;rw[List.getElem_take]at hc;exact List.pairwise_iff_getElem.1 h3 j i (by omega) hi (by omega) hc
def vE (ds:List dH) (ns ss:List gO) (nx:Int):Prop:=ds.Pairwise (fun a b=>a.f0<b.f0)∧∀x ∈ ds,1≤x.f0∧x.f0≤nx-1∧0≤x.f2∧x.f2≤(x.f1.length:Int)∧((∃e ∈ ns,e.f1=x.f0)∨∃e ∈ ss,e.f1=x.f0)
theorem QZ {ds:List dH} {ns ss:List gO} {nx:Int} (hx:1≤nx∧nx≤1000000):oE ds ns ss nx=true↔vE ds ns ss nx:=by
 have hw:wrap64 (nx-1)=nx-1:=dp (by omega) (by omega);unfold oE;rw[Bool.not_eq_true',Pj]
 have one:∀i (hi:i<ds.length),iW ds ns ss nx i=false↔(1≤ds[i].f0∧ds[i].f0≤nx-1∧0≤ds[i].f2∧ds[i].f2≤(ds[i].f1.length:Int)∧((∃e ∈ ns,e.f1=ds[i].f0)∨∃e ∈ ss,e.f1=ds[i].f0))∧(0<i→ds[i-1].f0<ds[i].f0):=by
  intro i hi;unfold iW;rw[tw hi,tw (show i-1<ds.length by omega),hw];simp only[Bool.or_eq_false_iff,Bool.not_eq_false',decide_eq_true_eq,Bool.and_eq_false_iff,decide_eq_false_iff_not];rw[←tr,←tr];constructor
  ·rintro⟨⟨⟨a,b⟩,c⟩,d⟩;exact⟨⟨a.1,a.2,b.1,b.2,d⟩,fun hp=>by rcases c with c|c<;>omega⟩
  ·rintro⟨⟨a,b,c,d,e⟩,f⟩;refine⟨⟨⟨⟨a,b⟩,c,d⟩,?_⟩,e⟩;by_cases hp:0<i
   ·have:=f hp;right;omega
   ·left;exact hp
 constructor
 ·intro h;refine⟨List.pairwise_iff_getElem.2 (fun i j hi hj hij=>?_),fun x hx=>?_⟩
  ·have:∀(d:Nat) (hd:i+d+1<ds.length),ds[i].f0<ds[i+d+1].f0:=by
    intro d
    induction d with
    |zero=>intro hd;exact((one (i+1) hd).1 (h _ hd)).2 (by omega)
    |succ d ih=>
     intro hd;have h1:=ih (by omega);have h2:=((one (i+(d+1)+1) hd).1 (h _ hd)).2 (by omega);exact Int.lt_trans h1 h2
   have h3:=this (j-i-1) (by omega);have e:i+(j-i-1)+1=j:=by omega
   simp only[e]at h3;exact h3
  ·obtain⟨i,hi,rfl⟩:=List.getElem_of_mem hx;exact((one i hi).1 (h i hi)).1
 ·rintro⟨h1,h2⟩ i hi;exact(one i hi).2 ⟨h2 _ (List.getElem_mem hi),fun hp=>List.pairwise_iff_getElem.1 h1 (i-1) i (by omega) hi (by omega)⟩
def gy (ds:List dH):Nat:=(ds.map (fun x=>x.f1.length)).sum
theorem amp (ds:List dH):iZ ds ds.length=(gy ds:Int):=by
 have:∀i,i≤ds.length→iZ ds i=(gy (ds.take i):Int):=by
  intro i
  induction i with
  |zero=>intro _;rfl
  |succ i ih=>
   intro hi;have e:iZ ds (i+1)=iZ ds i+((ai ds (i:Int)).f1.length:Int):=rfl;rw[e,ih (by omega),tw (by omega),List.take_succ_eq_append_getElem (by omega)];unfold gy;rw[List.map_append,List.sum_append];simp
 have h:=this ds.length (Nat.le_refl _);rw[List.take_length]at h;exact h
structure js (ds:List dH) (ns ss:List gO) (nx:Int):Prop where
 n1:1≤nx∧nx≤1000000
 i1:vE ds ns ss nx
 t1:gy ds≤60000
 e1:oe ds ns
 e2:oe ds ss
theorem th {ds:List dH} {ns ss:List gO} {nx:Int}:bR ds ns ss nx=true↔js ds ns ss nx:=by
 unfold bR;simp only[Bool.and_eq_true,decide_eq_true_eq];rw[amp,JB,JB];exact⟨fun ⟨a,b,c,d,e⟩=>⟨a,(QZ a).1 b,by omega,d,e⟩,fun h=>⟨h.n1,(QZ h.n1).2 h.i1,by have:=h.t1;omega,h.e1,h.e2⟩⟩
theorem anV {ds:List dH} {x:dH} (h:x ∈ ds):x.f1.length≤gy ds:=by
 unfold gy
 induction ds with
 |nil=>cases h
 |cons y r ih=>
  rw[List.map_cons,List.sum_cons]
  rcases List.mem_cons.1 h with rfl|h
  ·omega
  ·have:=ih h;omega
theorem Zj {s:ByteArray} (h:fv s=true):1≤s.size∧s.size≤12:=by
 unfold fv at h;rw[Bool.and_eq_true,decide_eq_true_eq]at h;omega
theorem js.small {ds:List dH} {ns ss:List gO} {nx:Int} (h:js ds ns ss nx):Small ds ns ss∧∀x ∈ ds,x.f1.length≤1048576:=by
 have hf:=Ph ((QZ h.n1).2 h.i1) (JB.2 h.e1) (JB.2 h.e2);have hd:∀x ∈ ds,x.f1.length≤60000:=fun x hx=>Nat.le_trans (anV hx) h.t1
 exact⟨⟨by omega,fun x hx=>Nat.le_trans (hd x hx) (by decide),by have:=h.e1.1;omega,by have:=h.e2.1;omega,fun e he=>by have:=Zj (h.e1.2.1 e he).1;omega,fun e he=>by have:=Zj (h.e2.2.1 e he).1;omega⟩,fun x hx=>Nat.le_trans (hd x hx) (by decide)⟩
theorem ams {α:Type} (l:List α) (z:α) (p:α→Bool):((List.range l.length).filter (fun i=>p (l.getD i z))).map (fun i=>l.getD i z)=l.filter p:=by
 have h:=List.filter_map (l:=List.range l.length) (f:=fun i=>l.getD i z) (p:=p);rw[Lf l (fun x=>x) z]at h;rw[List.map_id']at h;exact h.symm
theorem KN (ds:List dH) (ns ss:List gO):kept ds ns ss=ds.filter (fun x=>named ns x.f0 || named ss x.f0):=by
 unfold kept ai;simp only[Int.toNat_natCast];exact ams ds gV (fun x=>named ns x.f0 || named ss x.f0)
theorem Su (ds:List dH) (p:dH→Bool):gy (ds.filter p)≤gy ds:=by
 unfold gy
 induction ds with
 |nil=>simp
 |cons x r ih=>
  rw[List.filter_cons];split<;>simp only[List.map_cons,List.sum_cons]<;>omega
theorem oe.k7 {ds ds':List dH} {l:List gO} (h:oe ds l) (hk:∀e ∈ l,∀x ∈ ds,x.f0=e.f1→∃y ∈ ds',y.f0=e.f1):oe ds' l:=
 ⟨h.1,fun e he=>⟨(h.2.1 e he).1,by obtain⟨x,hx,e1⟩:=(h.2.1 e he).2;exact hk e he x hx e1⟩,h.2.2⟩
theorem oe.filter {ds:List dH} {l:List gO} (h:oe ds l) (p:gO→Bool):oe ds (l.filter p):=
 ⟨Nat.le_trans (List.length_filter_le _ _) h.1,fun e he=>h.2.1 e (List.mem_filter.1 he).1,h.2.2.1.filter _,h.2.2.2.filter _⟩
theorem Zn {ds:List dH} {ns ss ns' ss':List gO} {nx:Int} (h:js ds ns ss nx) (h1:oe ds ns') (h2:oe ds ss'):js (kept ds ns' ss') ns' ss' nx:=by
 rw[KN]
 have hm:∀(l:List gO),(∀e ∈ l,e ∈ ns'∨e ∈ ss')→∀e ∈ l,∀x ∈ ds,x.f0=e.f1→∃y ∈ ds.filter (fun x=>named ns' x.f0 || named ss' x.f0),y.f0=e.f1:=by
  intro l hl e he x hx hxe;refine⟨x,List.mem_filter.2 ⟨hx,?_⟩,hxe⟩;rw[Bool.or_eq_true,tr,tr];exact(hl e he).imp (fun h=>⟨e,h,hxe.symm⟩) (fun h=>⟨e,h,hxe.symm⟩)
 refine⟨h.n1,⟨h.i1.1.filter _,fun x hx=>?_⟩,Nat.le_trans (Su _ _) h.t1,h1.k7 (hm ns' (fun e he=>Or.inl he)),h2.k7 (hm ss' (fun e he=>Or.inr he))⟩;obtain⟨hx,hn⟩:=List.mem_filter.1 hx;obtain⟨a,b,c,d,_⟩:=h.i1.2 x hx;rw[Bool.or_eq_true,tr,tr]at hn;exact⟨a,b,c,d,hn⟩
theorem YY {ds:List dH} {ns ss:List gO} {nx:Int} (h:vE ds ns ss nx):kept ds ns ss=ds:=by
 rw[KN];exact List.filter_eq_self.2 (fun x hx=>by rw[Bool.or_eq_true,tr,tr];exact(h.2 x hx).2.2.2.2)
end Go.Proofs.YtingkpnoiekliaaGreat.MZ
end
section
set_option linter.unusedVariables false
set_option linter.unusedSimpArgs false
namespace Go.Proofs.YtingkpnoiekliaaGreat.MZ
open Go.RowKit Go.Proofs.YtingkpnoiekliaaGreat.MZ Go.Proofs.YtingkpnoiekliaaGreatW.PrintWords Go.Proofs.YtingkpnoiekliaaGreatW.PrintLast Go.Proofs.YtingkpnoiekliaaGreatW.PrintMore
def b8 (r:dy):ik:=⟨r.1,r.2.1,r.2.2.1,r.2.2.2.1⟩
abbrev IV (d:ik):Prop:=js d.f0 d.f1 d.f2 d.f3
section
variable {ds:List dH} {ns ss:List gO} {nx:Int} {nm:ByteArray}
theorem EE (d0:List dH) (n0 s0:List gO) (x0:Int) (ds:List dH) (ns ss:List gO) (nx:Int) :
 (js (kept ds ns ss) ns ss nx∧iT d0 n0 s0 x0 ds ns ss nx=(kept ds ns ss,ns,ss,nx,0))∨(¬js (kept ds ns ss) ns ss nx∧iT d0 n0 s0 x0 ds ns ss nx=(d0,n0,s0,x0,4)):=by
 unfold iT;by_cases h:bR (kept ds ns ss) ns ss nx=true
 ·exact Or.inl ⟨th.1 h,if_pos h⟩
 ·exact Or.inr ⟨fun h2=>h (th.2 h2),if_neg h⟩
theorem look (ns:List gO) (nm:ByteArray):(∃e ∈ ns,e.f0=nm∧du ns nm=e.f1∧0≤nameAt ns nm∧(aG ns (nameAt ns nm)).f1=e.f1)∨(nameAt ns nm = -1∧du ns nm=0∧∀e ∈ ns,e.f0≠nm):=by
 unfold nameAt du
 rcases yQ (fun i=>decide ((aG ns (i:Int)).f0.toList=nm.toList)) ns.length 0 with ⟨j,_,j2,j3,j4⟩|⟨j1,j2⟩
 ·left;have hj:j<ns.length:=by omega
  refine⟨ns[j],List.getElem_mem hj,?_,?_,?_,?_⟩
  ·have:=of_decide_eq_true j3;rw[uQ hj]at this;exact aal this
  ·rw[j4,uQ hj]
  ·rw[j4];omega
  ·rw[j4,uQ hj]
 ·refine Or.inr ⟨j2 _ _,j2 _ _,fun e he hc=>?_⟩;obtain⟨i,hi,rfl⟩:=List.getElem_of_mem he;have:=j1 i (by omega) (by omega);rw[uQ hi,decide_eq_false_iff_not,hc]at this;exact this rfl
theorem agh (h:oe ds ns) {e e':gO} (he:e ∈ ns) (he':e' ∈ ns) (hn:e.f0=e'.f0):e=e':=by
 obtain⟨i,hi,rfl⟩:=List.getElem_of_mem he;obtain⟨j,hj,rfl⟩:=List.getElem_of_mem he';have hp:=List.pairwise_iff_getElem.1 h.2.2.1
 rcases Nat.lt_trichotomy i j with hlt|rfl|hlt
 ·exact absurd (congrArg ByteArray.toList hn) (Ec (hp i j hi hj hlt))
 ·rfl
 ·exact absurd (congrArg ByteArray.toList hn.symm) (Ec (hp j i hj hi hlt))
theorem KJ (h:oe ds ns) {e:gO} (he:e ∈ ns) (hn:e.f0=nm):du ns nm=e.f1∧0≤nameAt ns nm∧(aG ns (nameAt ns nm)).f1=e.f1:=by
 rcases look ns nm with ⟨e',he',h1,h2,h3,h4⟩|⟨_,_,h3⟩
 ·rw[agh h he he' (hn.trans h1.symm)];exact⟨h2,h3,h4⟩
 ·exact absurd hn (h3 e he)
theorem Ox (h:js ds ns ss nx) {e:gO} (he:e ∈ ns) (hn:e.f0=nm):df (bR ds ns ss nx) ns nm=0:=by
 unfold df;have h1:fv nm=true:=hn▸(h.e1.2.1 e he).1;rw[th.2 h,h1,if_pos (by decide),if_neg (by have:=(KJ h.e1 he hn).2.1;omega)]
theorem VC (hc:df (bR ds ns ss nx) ns nm=0):js ds ns ss nx∧∃e ∈ ns,e.f0=nm:=by
 obtain⟨h1,h2⟩:=afr hc;refine⟨th.1 h1,?_⟩
 rcases look ns nm with ⟨e,he,h3,_⟩|⟨h3,_⟩
 ·exact⟨e,he,h3⟩
 ·omega
theorem Hs (h:vE ds ns ss nx) {x:dH} (hx:x ∈ ds):fo ds x.f0=((ds.findIdx (fun y=>decide (y.f0=x.f0)):Nat):Int)∧ai ds (fo ds x.f0)=x:=by
 have h0:0≤fo ds x.f0:=KL.2 ⟨x,hx,rfl⟩;obtain⟨j,hj,e1,e2⟩:=Ht h0;rw[tw hj]at e2
 have tk:ds[j]=x:=by
  obtain⟨i,hi,rfl⟩:=List.getElem_of_mem hx;have hp:=List.pairwise_iff_getElem.1 h.1
  rcases Nat.lt_trichotomy i j with hlt|rfl|hlt
  ·have:=hp i j hi hj hlt;omega
  ·rfl
  ·have:=hp j i hj hi hlt;omega
 refine⟨?_,by rw[e1,tw hj,tk]⟩;rw[e1];congr 1;refine(List.findIdx_eq hj).2 ⟨by simpa using e2,fun k hk=>?_⟩ |>.symm
 have:=List.pairwise_iff_getElem.1 h.1 k j (by omega) hj hk;rw[tk]at this;simp;omega
theorem ZW (h:vE ds ns ss nx) {x:dH} (hx:x ∈ ds) (y:dH):ds.set (fo ds x.f0).toNat y=ds.map (fun z=>if z.f0=x.f0 then y else z):=by
 obtain⟨j,hj,e1,e2⟩:=Ht (KL.2 ⟨x,hx,rfl⟩);rw[e1,Int.toNat_natCast];rw[tw hj]at e2;refine List.ext_getElem (by simp) (fun i h1 h2=>?_);rw[List.getElem_map,List.getElem_set];have hi:i<ds.length:=by simpa using h1
 by_cases e:j=i
 ·subst e;rw[if_pos rfl,if_pos e2]
 ·rw[if_neg e,if_neg];intro hc;have hp:=List.pairwise_iff_getElem.1 h.1
  rcases Nat.lt_or_ge i j with hlt|hge
  ·have:=hp i j hi hj hlt;omega
  ·have:=hp j i hj hi (by omega);omega
theorem Zo (h:js ds ns ss nx) (f:dH→dH) (h0:∀x ∈ ds,(f x).f0=x.f0) (h2:∀x ∈ ds,0≤(f x).f2∧(f x).f2≤((f x).f1.length:Int)) (ht:gy (ds.map f)≤60000):js (ds.map f) ns ss nx:=by
 have hk:∀(l:List gO),oe ds l→oe (ds.map f) l:=fun l hl=>hl.k7 (fun e _ x hx hxe=>⟨f x,List.mem_map.2 ⟨x,hx,rfl⟩,(h0 x hx).trans hxe⟩)
 refine⟨h.n1,⟨?_,fun y hy=>?_⟩,ht,hk ns h.e1,hk ss h.e2⟩
 ·rw[List.pairwise_map];exact h.i1.1.imp_of_mem (fun ha hb hab=>by rw[h0 _ ha,h0 _ hb];exact hab)
 ·obtain⟨x,hx,rfl⟩:=List.mem_map.1 hy;obtain⟨a,b,_,_,e⟩:=h.i1.2 x hx;rw[h0 x hx];exact⟨a,b,(h2 x hx).1,(h2 x hx).2,e⟩
theorem aan (f:dH→dH) (ds:List dH) (hf:∀x ∈ ds,(f x).f1.length=x.f1.length):gy (ds.map f)=gy ds:=by
 unfold gy;rw[List.map_map];congr 1;exact List.map_congr_left hf
theorem anT (a b:List dH):gy (a++b)=gy a+gy b:=by unfold gy;simp
theorem anU (h:ds.Pairwise (fun a b=>a.f0<b.f0)) (id:Int) (n:Nat) (f:dH→dH) (h1:∀x,x.f0=id→(f x).f1.length≤x.f1.length+n):gy (ds.map (fun z=>if z.f0=id then f z else z))≤gy ds+n:=by
 induction ds with
 |nil=>simp[gy]
 |cons x r ih=>
  obtain⟨p1,p2⟩:=List.pairwise_cons.1 h;have e:∀(l:List dH) (y:dH),gy (y::l)=y.f1.length+gy l:=fun l y=>by simp[gy]
  rw[List.map_cons,e,e];by_cases hx:x.f0=id
  ·rw[if_pos hx]
   have hr:r.map (fun z=>if z.f0=id then f z else z)=r:=by
    refine(List.map_congr_left (fun z hz=>?_)).trans (List.map_id r);have:=p1 z hz;rw[if_neg (by omega)];rfl
   rw[hr];have:=h1 x hx;omega
  ·rw[if_neg hx];have:=ih p2;omega
theorem amz (h:js ds ns ss nx) {e:gO} (he:e ∈ ns) (hn:e.f0=nm):oI ds ns ss nx nm=(kept ds (fw ns nm) ss,fw ns nm,ss,nx,0)∧js (kept ds (fw ns nm) ss) (fw ns nm) ss nx:=by
 have hk:js (kept ds (fw ns nm) ss) (fw ns nm) ss nx:=Zn h (by rw[LJ];exact h.e1.filter _) h.e2;unfold oI;rw[Ox h he hn,if_pos rfl]
 rcases EE ds ns ss nx ds (fw ns nm) ss nx with ⟨_,e⟩|⟨hc,_⟩
 ·exact⟨e,hk⟩
 ·exact absurd hk hc
theorem anv (h:js ds ns ss nx):py ds ns ss nx=(kept ds ns ns,ns,ns,nx,0)∧js (kept ds ns ns) ns ns nx:=by
 have hk:=Zn h h.e1 h.e1;unfold py;rw[th.2 h,if_pos rfl]
 rcases EE ds ns ss nx ds ns ns nx with ⟨_,e⟩|⟨hc,_⟩
 ·exact⟨e,hk⟩
 ·exact absurd hk hc
def grow (id:Int) (b:List Int) (z:dH):dH:=if z.f0=id then ⟨z.f0,z.f1++b,z.f2⟩ else z
def sure (id:Int) (z:dH):dH:=if z.f0=id then ⟨z.f0,z.f1,(z.f1.length:Int)⟩ else z
theorem aeM (h:vE ds ns ss nx) {x:dH} (hx:x ∈ ds) (b:List Int):BE ds (fo ds x.f0).toNat b=ds.map (grow x.f0 b):=by
 obtain⟨e1,e2⟩:=Hs h hx;have hj:((fo ds x.f0).toNat:Int)=fo ds x.f0:=by rw[e1,Int.toNat_natCast]
 unfold BE;rw[hj,e2,ZW h hx];refine List.map_congr_left (fun z hz=>?_);unfold grow;split
 ·rename_i hc;obtain⟨_,e3⟩:=Hs h hz;rw[hc,e2]at e3;rw[←e3]
 ·rfl
theorem ant (h:vE ds ns ss nx) {x:dH} (hx:x ∈ ds):jF ds (fo ds x.f0).toNat=ds.map (sure x.f0):=by
 obtain⟨e1,e2⟩:=Hs h hx;have hj:((fo ds x.f0).toNat:Int)=fo ds x.f0:=by rw[e1,Int.toNat_natCast]
 unfold jF;rw[hj,e2,ZW h hx];refine List.map_congr_left (fun z hz=>?_);unfold sure;split
 ·rename_i hc;obtain⟨_,e3⟩:=Hs h hz;rw[hc,e2]at e3;rw[←e3]
 ·rfl
theorem anS (h:vE ds ns ss nx) (id:Int) (b:List Int):gy (ds.map (grow id b))≤gy ds+b.length:=anU h.1 id b.length (fun z=>⟨z.f0,z.f1++b,z.f2⟩) (fun z _=>by simp)
theorem Zm (h:js ds ns ss nx) (id:Int) (b:List Int) (ht:gy (ds.map (grow id b))≤60000):js (ds.map (grow id b)) ns ss nx:=by
 refine Zo h _ (fun x _=>by unfold grow;split<;>rfl) (fun x hx=>?_) ht;obtain⟨_,_,c,d,_⟩:=h.i1.2 x hx;unfold grow;split
 ·simp only[List.length_append];omega
 ·exact⟨c,d⟩
theorem amd (h:js ds ns ss nx) (id:Int):js (ds.map (sure id)) ns ss nx:=by
 refine Zo h _ (fun x _=>by unfold sure;split<;>rfl) (fun x hx=>?_) ?_
 ·obtain⟨_,_,c,d,_⟩:=h.i1.2 x hx;unfold sure;split
  ·exact⟨by simp,by simp⟩
  ·exact⟨c,d⟩
 ·rw[aan _ _ (fun x _=>by unfold sure;split<;>rfl)];exact h.t1
theorem aeT (h:js ds ns ss nx) {e:gO} (he:e ∈ ns) (hn:e.f0=nm) (b:List Int):nJ ds ns ss nx nm b=if gy (ds.map (grow e.f1 b))≤60000 then (ds.map (grow e.f1 b),ns,ss,nx,0) else (ds,ns,ss,nx,4):=by
 obtain⟨x,hx,hxe⟩:=(h.e1.2.1 e he).2;unfold nJ;rw[Ox h he hn,if_pos rfl,(KJ h.e1 he hn).1,←hxe,aeM h.i1 hx];split
 ·rename_i ht;have hk:=Zm h x.f0 b ht;have hself:=YY hk.i1
  rcases EE ds ns ss nx (ds.map (grow x.f0 b)) ns ss nx with ⟨_,e2⟩|⟨hc,_⟩
  ·rw[e2,hself]
  ·rw[hself]at hc;exact absurd hk hc
 ·rename_i ht
  have hself:kept (ds.map (grow x.f0 b)) ns ss=ds.map (grow x.f0 b):=by
   refine YY (nx:=nx) ⟨?_,fun y hy=>?_⟩
   ·rw[List.pairwise_map];exact h.i1.1.imp (fun hab=>by unfold grow;split<;>split<;>exact hab)
   ·obtain⟨z,hz,rfl⟩:=List.mem_map.1 hy;obtain⟨a1,a2,a3,a4,a5⟩:=h.i1.2 z hz;unfold grow;split
    ·exact⟨a1,a2,a3,by simp only[List.length_append];omega,a5⟩
    ·exact⟨a1,a2,a3,a4,a5⟩
  rcases EE ds ns ss nx (ds.map (grow x.f0 b)) ns ss nx with ⟨hc,_⟩|⟨_,e2⟩
  ·rw[hself]at hc;exact absurd hc.t1 ht
  ·exact e2
theorem anw (h:js ds ns ss nx) {e:gO} (he:e ∈ ns) (hn:e.f0=nm):nZ ds ns ss nx nm=(ds.map (sure e.f1),ns,ss,nx,0):=by
 obtain⟨x,hx,hxe⟩:=(h.e1.2.1 e he).2;unfold nZ;rw[Ox h he hn,if_pos rfl,(KJ h.e1 he hn).1,←hxe,ant h.i1 hx]
theorem ae0 (h:js ds ns ss nx) {e:gO} (he:e ∈ ns) (hn:e.f0=nm) {x:dH} (hx:x ∈ ds) (hxe:x.f0=e.f1):l9 (bR ds ns ss nx) ds ns nm=(x.f1,true):=by
 obtain⟨_,h2,h3⟩:=KJ h.e1 he hn;unfold l9;rw[if_pos ⟨th.2 h,h2⟩,h3,←hxe,(Hs h.i1 hx).2]
end
def Bd (ds:List dH):Prop:=∀x ∈ ds,cK x.f1
theorem Bd.kept {ds:List dH} {ns ss:List gO} (h:Bd ds):Bd (kept ds ns ss):=fun x hx=>h x (YX hx)
theorem Bd.app {ds:List dH} {n:Int} (h:Bd ds):Bd (ds++[(⟨n,[],0⟩:dH)]):=fun x hx=>by
 rcases List.mem_append.1 hx with hx|hx
 ·exact h x hx
 ·rw[List.mem_singleton.1 hx];exact cK.nil
theorem Bd.grow {ds:List dH} {id:Int} {b:List Int} (h:Bd ds) (hb:cK b):Bd (ds.map (grow id b)):=fun x hx=>by
 obtain⟨y,hy,rfl⟩:=List.mem_map.1 hx;unfold MZ.grow;split
 ·exact(h y hy).append hb
 ·exact h y hy
theorem Bd.sure {ds:List dH} {id:Int} (h:Bd ds):Bd (ds.map (sure id)):=fun x hx=>by
 obtain⟨y,hy,rfl⟩:=List.mem_map.1 hx;unfold MZ.sure;split
 ·exact h y hy
 ·exact h y hy
theorem cK.take {b:List Int} (h:cK b) (n:Nat):cK (b.take n):=cK.CB (fun x hx=>h.mem x (List.mem_of_mem_take hx))
section
variable {ds:List dH} {ns ss:List gO} {nx:Int} {nm nq:ByteArray}
end
structure Gd (P:ByteArray→Prop) (m:Nat) (d:ik):Prop where
 ok:IV d
 tt:gy d.f0≤m
 g1:∀e ∈ d.f1,P e.f0
 g2:∀e ∈ d.f2,P e.f0
 bb:Bd d.f0
section
variable {P:ByteArray→Prop} {m m':Nat} {d:ik} {nm nq:ByteArray}
theorem Gd.more (h:Gd P m d) (hm:m≤m'):Gd P m' d:=⟨h.ok,Nat.le_trans h.tt hm,h.g1,h.g2,h.bb⟩
theorem Gd.ends (h:Gd P m d) {ds:List dH} {ns ss:List gO} {nx:Int} (ht:gy ds≤m) (g1:∀e ∈ ns,P e.f0) (g2:∀e ∈ ss,P e.f0) (hb:Bd ds):Gd P m (b8 (iT d.f0 d.f1 d.f2 d.f3 ds ns ss nx)):=by
 rcases EE d.f0 d.f1 d.f2 d.f3 ds ns ss nx with ⟨h1,e⟩|⟨_,e⟩
 ·rw[e];exact⟨h1,Nat.le_trans (by rw[KN];exact Su _ _) ht,g1,g2,hb.kept⟩
 ·rw[e];exact h
theorem Gd.create (h:Gd P m d) (hn:P nm):Gd P m (b8 (pX d.f0 d.f1 d.f2 d.f3 nm)):=by
 unfold pX;split
 ·exact h
 ·split
  ·exact h
  ·exact h.ends (by rw[anT];simpa[gy] using h.tt) (fun e he=>by rcases Hu he with rfl|he;exact hn;exact h.g1 e he) h.g2 h.bb.app
theorem Gd.append (h:Gd P m d) (b:List Int) (hb:cK b):Gd P (m+b.length) (b8 (nJ d.f0 d.f1 d.f2 d.f3 nm b)):=by
 by_cases hc:df (bR d.f0 d.f1 d.f2 d.f3) d.f1 nm=0
 ·obtain⟨_,e,he,hn⟩:=VC hc;rw[aeT h.ok he hn];split
  ·rename_i ht;exact⟨Zm h.ok e.f1 b ht,Nat.le_trans (anS h.ok.i1 e.f1 b) (by have:=h.tt;show gy d.f0+b.length≤_;omega),h.g1,h.g2,h.bb.grow hb⟩
  ·exact h.more (Nat.le_add_right _ _)
 ·unfold nJ;rw[if_neg hc];exact h.more (Nat.le_add_right _ _)
theorem Gd.sync (h:Gd P m d):Gd P m (b8 (nZ d.f0 d.f1 d.f2 d.f3 nm)):=by
 by_cases hc:df (bR d.f0 d.f1 d.f2 d.f3) d.f1 nm=0
 ·obtain⟨_,e,he,hn⟩:=VC hc;rw[anw h.ok he hn];exact⟨amd h.ok e.f1,by show gy (d.f0.map _)≤m;rw[aan _ _ (fun x _=>by unfold sure;split<;>rfl)];exact h.tt,h.g1,h.g2,h.bb.sure⟩
 ·unfold nZ;rw[if_neg hc];exact h
theorem Gd.Lr (h:Gd P m d):Gd P m (b8 (py d.f0 d.f1 d.f2 d.f3)):=by
 obtain⟨e,hk⟩:=anv h.ok;rw[e];exact⟨hk,Nat.le_trans (by show gy (kept _ _ _)≤gy d.f0;rw[KN];exact Su _ _) h.tt,h.g1,h.g1,h.bb.kept⟩
theorem Gd.remove (h:Gd P m d):Gd P m (b8 (oI d.f0 d.f1 d.f2 d.f3 nm)):=by
 unfold oI;split
 ·exact h.ends h.tt (fun e he=>h.g1 e (C5 he)) h.g2 h.bb
 ·exact h
theorem Gd.rename (h:Gd P m d) (hn:P nq):Gd P m (b8 (qd d.f0 d.f1 d.f2 d.f3 nm nq)):=by
 unfold qd;split
 ·exact h
 ·split
  ·split
   ·exact h
   ·refine h.ends h.tt (fun e he=>?_) h.g2 h.bb
    rcases Hu he with rfl|he
    ·exact hn
    ·exact h.g1 e (C5 (C5 he))
  ·exact h
end
end Go.Proofs.YtingkpnoiekliaaGreat.MZ
end
section
namespace Go.Proofs.YtingkpnoiekliaaGreat.MZ
open Go.RowKit Go.Proofs.YtingkpnoiekliaaGreatW.PrintWords Go.Proofs.YtingkpnoiekliaaGreatW.PrintLast Go.Proofs.YtingkpnoiekliaaGreatW.PrintMore Go.Proofs.YtingkpnoiekliaaGreat.MWords Go.Proofs.YtingkpnoiekliaaGreat.MZ
set_option linter.unusedVariables false
def Fs (b:Nat) (ok:Nat→Prop) (cs:Array Value) (d:Dk) (W:World):Prop:=∃v0 v1 v2,cs=#[v0,v1,v2,.int .i64 d.f3]∧Kd.S bc 63 W b (fun k=>ok k∧some k≠v1.ownBlock∧some k≠v2.ownBlock) v0 d.f0∧Kd.R an 89 W b (fun k=>ok k∧some k≠v2.ownBlock) v1 d.f1∧Kd.R an 89 W b (fun k=>ok k∧some k≠v1.ownBlock) v2 d.f2
abbrev Fe (b:Nat) (cs:Array Value) (d:Dk) (W:World):Prop:=Fs b (fun k=>b≤k) cs d W
section
variable {b b':Nat} {ok ok':Nat→Prop} {cs:Array Value} {d:Dk} {w w' W:World}
theorem Fs.fr (h:Fs b ok cs d W):Fr b ok cs d W:=by
 obtain⟨v0,v1,v2,e,h0,h1,h2⟩:=h;exact⟨v0,v1,v2,e,Kd.By h0,h1,h2⟩
theorem Fs.cm (h:Fs b ok cs d W):cO cs d W:=h.fr.cm
theorem Fs.size (h:Fs b ok cs d W):cs.size=4:=h.cm.size
theorem Fs.mono (h:Fs b ok cs d W) (hb:b'≤b) (hk:∀k,ok k→ok' k):Fs b' ok' cs d W:=by
 obtain⟨v0,v1,v2,e,h0,h1,h2⟩:=h;exact⟨v0,v1,v2,e,Kd.l6 (Kd.dj h0 (fun k h=>⟨hk k h.1,h.2⟩)) hb,Kd.cg (Kd.aK h1 (fun k h=>⟨hk k h.1,h.2⟩)) hb,Kd.cg (Kd.aK h2 (fun k h=>⟨hk k h.1,h.2⟩)) hb⟩
theorem Fs.low (h:Fe b cs d W) (hb:b'≤b):Fe b' cs d W:=Fs.mono h hb (fun k hk=>Nat.le_trans hb hk)
theorem Fs.nc (h:Fs b ok cs d W):Foot (Fs b ok cs d) W ok:=fun W' hW=>by
 obtain⟨v0,v1,v2,e,h0,h1,h2⟩:=h;exact⟨v0,v1,v2,e,Kd.D5 h0 (fun k hk=>hW k hk.1),Kd.nI h1 (fun k hk=>hW k hk.1),Kd.nI h2 (fun k hk=>hW k hk.1)⟩
theorem vY {p0 p1 p2:Nat→Prop} {v0 v1 v2:Value} {U:List al} {l1 l2:List aa} {n:Int} (h0:Kd.S bc 63 W b p0 v0 U) (h1:Kd.R an 89 W b p1 v1 l1) (h2:Kd.R an 89 W b p2 v2 l2) (q1:∀k,p1 k→some k≠v2.ownBlock:=by exact fun _ h=>h) (q2:∀k,p2 k→some k≠v1.ownBlock:=by exact fun _ h=>h):Fe b #[v0,v1,v2,.int .i64 n] ⟨U,l1,l2,n⟩ W:=
 ⟨v0,v1,v2,rfl,Kd.dj (Kd.kS (Kd.o4 (Kd.o4 h0 (Kd.fb h1) (by decide)) (Kd.fb h2) (by decide))) (fun k h=>⟨h.2.1,h.1.1.2,h.1.2⟩),Kd.aK (Kd.iR h1) (fun k h=>⟨h.2.1,q1 k h.1⟩),Kd.aK (Kd.iR h2) (fun k h=>⟨h.2.1,q2 k h.1⟩)⟩
def Rz (w w':World) (cs:Array Value) (d:Dk):Prop:=Foot (Fe w.heap.size cs d) w' (fun k=>w.heap.size≤k)∧Below w.heap.size w w'
theorem Fs.rz (h:Fe w.heap.size cs d w') (hb:Below w.heap.size w w'):Rz w w' cs d:=⟨Fs.nc h,hb⟩
theorem Rz.rs (h:Rz w w' cs d):Rs w w' cs d:=⟨h.1.imp (fun _ h=>h.cm),h.2⟩
end
def Pd (w:World) (r:dy) (e:Ending) (w':World):Prop:=∃cs',e = .returned (.tuple #[.agg cs',.int .i64 r.2.2.2.2])∧Rz w w' cs' (b8 r)
def Rb (w w':World) (A:Option Addr) (c:Nat) (l:List Int):Prop:=l.length≤c∧Foot (fun W=>Kd.C (Kd.int .u8) W A l.length l) w' (fun k=>w.heap.size≤k)∧Below w.heap.size w w'
theorem Zz {w w':World} {p:Nat→Prop} {v:Value} {l:List Int} (h:Kd.R (Kd.int .u8) 5 w' w.heap.size p v l) (hb:Below w.heap.size w w'):∃A c,v = .slice A l.length c∧Rb w w' A c l:=by
 have g:=Kd.iR h;obtain⟨A,c,rfl,e,_⟩:=Kd.oY g;exact⟨A,c,rfl,e,Kd.Mu (Kd.UQ g) (fun k hk=>hk.2.1),hb⟩
section
variable {w:World} {cs:Array Value} {d:Dk} {nm:ByteArray} {r:dy}
theorem Vx (hr:pX d.f0 d.f1 d.f2 d.f3 nm=r) (hd:cO cs d w) (hs:Small d.f0 d.f1 d.f2) (hn:nm.size≤9223372036854775807):Calls Tryz.prog 101 #[.agg cs,.string nm] w (Pd w r):=by
 subst hr;obtain⟨K,hk⟩:=ale d.f0 d.f1 d.f2 d.f3 nm hn hs;obtain⟨A0,c0,A1,c1,A2,c2,rfl,U,g0,l1,g1,l2,g2⟩:=hd.open;exact(Hm.calls K _ _ _ _ _ _ _ _ _ _ _ _ _ _ _ _ w g0 U g1 l1 g2 l2 (hk K (Nat.le_refl _))).mono (fun e w' ⟨v0,v1,v2,he,h0,h1,h2,hb⟩=>⟨_,he,Fs.rz (vY h0 h1 h2) hb⟩)
theorem afp (hr:nZ d.f0 d.f1 d.f2 d.f3 nm=r) (hd:cO cs d w) (hs:Small d.f0 d.f1 d.f2) (hn:nm.size≤9223372036854775807):Calls Tryz.prog 102 #[.agg cs,.string nm] w (Pd w r):=by
 subst hr;obtain⟨K,hk⟩:=aln d.f0 d.f1 d.f2 d.f3 nm hn hs;obtain⟨A0,c0,A1,c1,A2,c2,rfl,U,g0,l1,g1,l2,g2⟩:=hd.open;exact(Hp.calls K _ _ _ _ _ _ _ _ _ _ _ _ _ _ _ _ w g0 U g1 l1 g2 l2 (hk K (Nat.le_refl _))).mono (fun e w' ⟨v0,v1,v2,he,h0,h1,h2,hb⟩=>⟨_,he,Fs.rz (vY h0 h1 h2) hb⟩)
theorem afq (hr:py d.f0 d.f1 d.f2 d.f3=r) (hd:cO cs d w) (hs:Small d.f0 d.f1 d.f2):Calls Tryz.prog 70 #[.agg cs] w (Pd w r):=by
 subst hr;obtain⟨K,hk⟩:=alm d.f0 d.f1 d.f2 d.f3 hs;obtain⟨A0,c0,A1,c1,A2,c2,rfl,U,g0,l1,g1,l2,g2⟩:=hd.open;exact(Hq.calls K _ _ _ _ _ _ _ _ _ _ _ _ _ _ _ w g0 U g1 l1 g2 l2 (hk K (Nat.le_refl _))).mono (fun e w' ⟨v0,v1,v2,he,h0,h1,h2,hb⟩=>⟨_,he,Fs.rz (vY h0 h1 h2) hb⟩)
theorem afi {b:List Int} {A:Option Addr} {c:Nat} (hr:nJ d.f0 d.f1 d.f2 d.f3 nm b=r) (hd:cO cs d w) (hs:Small d.f0 d.f1 d.f2) (hn:nm.size≤9223372036854775807) (hl:∀x ∈ d.f0,x.f1.length≤1048576) (hb:b.length≤1048600) (gb:Kd.C (Kd.int .u8) w A b.length b) (lb:b.length≤c):Calls Tryz.prog 41 #[.agg cs,.string nm,.slice A b.length c] w (Pd w r):=by
 subst hr;obtain⟨K,hk⟩:=alc d.f0 d.f1 d.f2 d.f3 nm b hn hs hl hb;obtain⟨A0,c0,A1,c1,A2,c2,rfl,U,g0,l1,g1,l2,g2⟩:=hd.open;exact(Cv.calls K _ _ _ _ _ _ _ _ _ _ _ _ _ _ _ _ _ _ _ w g0 U g1 l1 g2 l2 gb lb (hk K (Nat.le_refl _))).mono (fun e w' ⟨v0,v1,v2,he,h0,h1,h2,hb⟩=>⟨_,he,Fs.rz (vY h0 h1 h2) hb⟩)
theorem afl (hr:oI d.f0 d.f1 d.f2 d.f3 nm=r) (hd:cO cs d w) (hs:Small d.f0 d.f1 d.f2) (hn:nm.size≤9223372036854775807):Calls Tryz.prog 100 #[.agg cs,.string nm] w (Pd w r):=by
 subst hr;obtain⟨K,hk⟩:=alj d.f0 d.f1 d.f2 d.f3 nm hn hs;obtain⟨A0,c0,A1,c1,A2,c2,rfl,U,g0,l1,g1,l2,g2⟩:=hd.open;exact(Hn.calls K _ _ _ _ _ _ _ _ _ _ _ _ _ _ _ _ w g0 U g1 l1 g2 l2 (hk K (Nat.le_refl _))).mono (fun e w' ⟨v0,v1,v2,he,h0,h1,h2,hb⟩=>⟨_,he,Fs.rz (vY h0 h1 h2) hb⟩)
theorem afm {nq:ByteArray} (hr:qd d.f0 d.f1 d.f2 d.f3 nm nq=r) (hd:cO cs d w) (hs:Small d.f0 d.f1 d.f2) (hn:nm.size≤9223372036854775807) (ht:nq.size≤9223372036854775807):Calls Tryz.prog 69 #[.agg cs,.string nm,.string nq] w (Pd w r):=by
 subst hr;obtain⟨K,hk⟩:=alk d.f0 d.f1 d.f2 d.f3 nm nq hn ht hs;obtain⟨A0,c0,A1,c1,A2,c2,rfl,U,g0,l1,g1,l2,g2⟩:=hd.open;exact(Ho.calls K _ _ _ _ _ _ _ _ _ _ _ _ _ _ _ _ _ w g0 U g1 l1 g2 l2 (hk K (Nat.le_refl _))).mono (fun e w' ⟨v0,v1,v2,he,h0,h1,h2,hb⟩=>⟨_,he,Fs.rz (vY h0 h1 h2) hb⟩)
theorem BM (hd:cO cs d w) (hs:Small d.f0 d.f1 d.f2):Calls Tryz.prog 27 #[.agg cs] w (fun e w'=>∃cs',e = .returned (.agg cs')∧Rz w w' cs' d):=by
 obtain⟨K,hk⟩:=hs.Jx d.f3;obtain⟨A0,c0,A1,c1,A2,c2,rfl,U,g0,l1,g1,l2,g2⟩:=hd.open;exact(fi.calls K _ _ _ _ _ _ _ _ _ _ _ _ _ _ w g0 U g1 l1 g2 l2 (hk K (Nat.le_refl _))).mono (fun e w' ⟨v0,v1,v2,he,h0,h1,h2,hb⟩=>⟨_,he,Fs.rz (vY h0 h1 h2) hb⟩)
theorem Vw {l:List Int} {b:Bool} (he:l9 (bR d.f0 d.f1 d.f2 d.f3) d.f0 d.f1 nm=(l,b)) (hd:cO cs d w) (hs:Small d.f0 d.f1 d.f2) (hl:∀x ∈ d.f0,x.f1.length≤1048576):Calls Tryz.prog 9 #[.agg cs,.string nm] w fun e w'=>∃A c,e = .returned (.tuple #[.slice A l.length c,.bool b])∧Rb w w' A c l:=by
 obtain⟨K,hk⟩:=ald d.f0 d.f1 d.f2 d.f3 nm hs.h0 hl hs.h1 hs.h2 hs.z1 hs.z2;rw[he]at hk;obtain⟨A0,c0,A1,c1,A2,c2,rfl,U,g0,l1,g1,l2,g2⟩:=hd.open;refine(iw.calls K _ _ _ _ _ _ _ _ _ _ nm _ _ w g0 U g1 l1 g2 l2 (hk K (Nat.le_refl _))).mono (fun e w' ⟨v0,he,h0,hb⟩=>?_);obtain⟨A,c,rfl,r⟩:=Zz h0 hb;exact⟨A,c,he,r⟩
theorem ZL {l:List Int} {b:Bool} (he:l9 (bR d.f0 d.f1 d.f2 d.f3) d.f0 d.f1 nm=(l,b)) (hd:cO cs d w) (hs:Small d.f0 d.f1 d.f2) (hl:∀x ∈ d.f0,x.f1.length≤1048576) (hn:nm.size≤9223372036854775807):Calls Tryz.prog 32 #[.agg cs,.string nm] w fun e w'=>∃A c,e = .returned (.tuple #[.slice A l.length c,.bool b])∧Rb w w' A c l:=by
 obtain⟨K,hk⟩:=am4 d.f0 d.f1 d.f2 d.f3 nm hn hs.h0 hl hs.h1 hs.h2 hs.z1 hs.z2;rw[he]at hk;obtain⟨A0,c0,A1,c1,A2,c2,rfl,U,g0,l1,g1,l2,g2⟩:=hd.open;refine(pt.calls K _ _ _ _ _ _ _ _ _ _ nm _ _ w g0 U g1 l1 g2 l2 (hk K (Nat.le_refl _))).mono (fun e w' ⟨v0,he,h0,hb⟩=>?_);obtain⟨A,c,rfl,r⟩:=Zz h0 hb;exact⟨A,c,he,r⟩
theorem Jp (hd:cO cs d w) (hs:Small d.f0 d.f1 d.f2):Calls Tryz.prog 11 #[.agg cs] w fun e w'=>e = .returned (.bool (bR d.f0 d.f1 d.f2 d.f3))∧Below w.heap.size w w':=VA hd hs
theorem Er (hd:cO cs d w) (hs:Small d.f0 d.f1 d.f2):Calls Tryz.prog 28 #[.agg cs,.string nm] w (fun e w'=>e = .returned (.int .i64 (du d.f1 nm))∧Below w.heap.size w w'):=by
 obtain⟨K,hk⟩:=zp d.f0 d.f1 d.f2 d.f3 nm hs.h1;obtain⟨A0,c0,A1,c1,A2,c2,rfl,U,g0,l1,g1,l2,g2⟩:=hd.open;exact eX.calls K _ _ _ _ _ _ _ _ _ _ nm _ w g0 U g1 l1 g2 l2 (hk K (Nat.le_refl _))
end
end Go.Proofs.YtingkpnoiekliaaGreat.MZ
end
section
namespace Go.Proofs.YtingkpnoiekliaaGreat.MZ
open Go.RowKit Go.Proofs.YtingkpnoiekliaaGreatW.PrintWords Go.Proofs.YtingkpnoiekliaaGreatW.PrintLast Go.Proofs.YtingkpnoiekliaaGreatW.PrintMore Go.Proofs.YtingkpnoiekliaaGreat.MWords Go.Proofs.YtingkpnoiekliaaGreat.MZ
set_option linter.unusedVariables false
def Pe (w:World) (r:dy) (e:Ending) (w':World):Prop:=∃cs',e = .returned (.tuple #[.agg cs',.int .i64 r.2.2.2.2])∧Rf w w' cs' ⟨r.1,r.2.1,r.2.2.1,r.2.2.2.1⟩
def Pg (w:World) (r:List al × List aa × List aa × Int) (e:Ending) (w':World):Prop:=∃cs',e = .returned (.agg cs')∧Rf w w' cs' ⟨r.1,r.2.1,r.2.2.1,r.2.2.2⟩
section
variable {w:World} {cs:Array Value} {d:Dk} {nm:ByteArray}
theorem amS (hd:cO cs d w) (hs:Small d.f0 d.f1 d.f2) (hn:nm.size≤9223372036854775807):Calls Tryz.prog 62 #[.agg cs,.string nm] w (Pe w (nZ d.f0 d.f1 d.f2 d.f3 nm)):=by
 obtain⟨K,hk⟩:=am8 d.f0 d.f1 d.f2 d.f3 nm hn hs;obtain⟨A0,c0,A1,c1,A2,c2,rfl,U,g0,l1,g1,l2,g2⟩:=hd.open;exact(j6.calls K _ _ _ _ _ _ _ _ _ _ _ _ _ _ _ _ w g0 U g1 l1 g2 l2 (hk K (Nat.le_refl _))).mono (fun e w' ⟨v0,v1,v2,he,h0,h1,h2,hb⟩=>⟨_,he,Fr.rf (V2 h0 h1 h2) hb⟩)
theorem amG {b:List Int} {A:Option Addr} {c:Nat} (hd:cO cs d w) (hs:Small d.f0 d.f1 d.f2) (hn:nm.size≤9223372036854775807) (hl:∀x ∈ d.f0,x.f1.length≤1048576) (hb:b.length≤1048600) (gb:Kd.C (Kd.int .u8) w A b.length b) (lb:b.length≤c):Calls Tryz.prog 65 #[.agg cs,.string nm,.slice A b.length c] w (Pe w (nJ d.f0 d.f1 d.f2 d.f3 nm b)):=by
 obtain⟨K,hk⟩:=am3 d.f0 d.f1 d.f2 d.f3 nm b hn hs hl hb;obtain⟨A0,c0,A1,c1,A2,c2,rfl,U,g0,l1,g1,l2,g2⟩:=hd.open;exact(jE.calls K _ _ _ _ _ _ _ _ _ _ _ _ _ _ _ _ _ _ _ w g0 U g1 l1 g2 l2 gb lb (hk K (Nat.le_refl _))).mono (fun e w' ⟨v0,v1,v2,he,h0,h1,h2,hb⟩=>⟨_,he,Fr.rf ⟨v0,v1,v2,rfl,h0,h1,h2⟩ hb⟩)
end
end Go.Proofs.YtingkpnoiekliaaGreat.MZ
end
