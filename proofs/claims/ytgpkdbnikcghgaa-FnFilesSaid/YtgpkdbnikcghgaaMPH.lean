/- What each change leaves of a disk that is right; and of a disk that is drawn (names of N alone, m bytes at most). -/
import Derived.Test.YtgpkdbnikcghgaaMPG
set_option linter.unusedVariables false
set_option linter.unusedSimpArgs false
namespace Go.Proofs.Ytgpkdbnikcghgaa.MPD
open Go.RowKit Go.Proofs.Ytgpkdbnikcghgaa.MD Go.Proofs.YtgpkdbnikcghgaaW.PrintWords Go.Proofs.YtgpkdbnikcghgaaW.PrintLast Go.Proofs.YtgpkdbnikcghgaaW.PrintMore
def ix (r:lQ):ob:=⟨r.1,r.2.1,r.2.2.1,r.2.2.2.1⟩
abbrev FF (d:ob):Prop:=kD d.f0 d.f1 d.f2 d.f3
section
variable {ds:List eh} {ns ss:List gD} {nx:Int} {nm:ByteArray}
theorem DF (d0:List eh) (n0 s0:List gD) (x0:Int) (ds:List eh) (ns ss:List gD) (nx:Int) :
 (kD (kept ds ns ss) ns ss nx∧mW d0 n0 s0 x0 ds ns ss nx=(kept ds ns ss,ns,ss,nx,0))∨(¬kD (kept ds ns ss) ns ss nx∧mW d0 n0 s0 x0 ds ns ss nx=(d0,n0,s0,x0,4)):=by
 unfold mW;by_cases h:bS (kept ds ns ss) ns ss nx=true
 ·exact Or.inl ⟨vX.1 h,if_pos h⟩
 ·exact Or.inr ⟨fun h2=>h (vX.2 h2),if_neg h⟩
theorem look (ns:List gD) (nm:ByteArray):(∃e ∈ ns,e.f0=nm∧gx ns nm=e.f1∧0≤nameAt ns nm∧(aw ns (nameAt ns nm)).f1=e.f1)∨(nameAt ns nm = -1∧gx ns nm=0∧∀e ∈ ns,e.f0≠nm):=by
 unfold nameAt gx
 rcases Br (fun i=>decide ((aw ns (i:Int)).f0.toList=nm.toList)) ns.length 0 with ⟨j,_,j2,j3,j4⟩|⟨j1,j2⟩
 ·left;have hj:j<ns.length:=by omega
  refine⟨ns[j],List.getElem_mem hj,?_,?_,?_,?_⟩
  ·have:=of_decide_eq_true j3;rw[yv hj]at this;exact ad8 this
  ·rw[j4,yv hj]
  ·rw[j4];omega
  ·rw[j4,yv hj]
 ·refine Or.inr ⟨j2 _ _,j2 _ _,fun e he hc=>?_⟩;obtain⟨i,hi,rfl⟩:=List.getElem_of_mem he;have:=j1 i (by omega) (by omega);rw[yv hi,decide_eq_false_iff_not,hc]at this;exact this rfl
theorem ajp (h:qc ds ns) {e e':gD} (he:e ∈ ns) (he':e' ∈ ns) (hn:e.f0=e'.f0):e=e':=by
 obtain⟨i,hi,rfl⟩:=List.getElem_of_mem he;obtain⟨j,hj,rfl⟩:=List.getElem_of_mem he';have hp:=List.pairwise_iff_getElem.1 h.2.2.1
 rcases Nat.lt_trichotomy i j with hlt|rfl|hlt
 ·exact absurd (congrArg ByteArray.toList hn) (FX (hp i j hi hj hlt))
 ·rfl
 ·exact absurd (congrArg ByteArray.toList hn.symm) (FX (hp j i hj hi hlt))
theorem MC (h:qc ds ns) {e:gD} (he:e ∈ ns) (hn:e.f0=nm):gx ns nm=e.f1∧0≤nameAt ns nm∧(aw ns (nameAt ns nm)).f1=e.f1:=by
 rcases look ns nm with ⟨e',he',h1,h2,h3,h4⟩|⟨_,_,h3⟩
 ·rw[ajp h he he' (hn.trans h1.symm)];exact⟨h2,h3,h4⟩
 ·exact absurd hn (h3 e he)
theorem YT (h:kD ds ns ss nx) {e:gD} (he:e ∈ ns) (hn:e.f0=nm):fC (bS ds ns ss nx) ns nm=0:=by
 unfold fC;have h1:ir nm=true:=hn▸(h.e1.2.1 e he).1;rw[vX.2 h,h1,if_pos (by decide),if_neg (by have:=(MC h.e1 he hn).2.1;omega)]
theorem aiG (h:kD ds ns ss nx) (ho:ir nm=true) (hn:∀e ∈ ns,e.f0≠nm):fC (bS ds ns ss nx) ns nm=2:=by
 unfold fC;rw[vX.2 h,ho,if_pos (by decide)]
 rcases look ns nm with ⟨e,he,h1,_⟩|⟨h1,_,_⟩
 ·exact absurd h1 (hn e he)
 ·rw[if_pos (by omega)]
theorem YS (hc:fC (bS ds ns ss nx) ns nm=0):kD ds ns ss nx∧∃e ∈ ns,e.f0=nm:=by
 obtain⟨h1,h2⟩:=aiB hc;refine⟨vX.1 h1,?_⟩
 rcases look ns nm with ⟨e,he,h3,_⟩|⟨h3,_⟩
 ·exact⟨e,he,h3⟩
 ·omega
theorem I2 (h:y5 ds ns ss nx) {x:eh} (hx:x ∈ ds):gQ ds x.f0=((ds.findIdx (fun y=>decide (y.f0=x.f0)):Nat):Int)∧aa ds (gQ ds x.f0)=x:=by
 have h0:0≤gQ ds x.f0:=MH.2 ⟨x,hx,rfl⟩;obtain⟨j,hj,e1,e2⟩:=I3 h0;rw[z7 hj]at e2
 have qB:ds[j]=x:=by
  obtain⟨i,hi,rfl⟩:=List.getElem_of_mem hx;have hp:=List.pairwise_iff_getElem.1 h.1
  rcases Nat.lt_trichotomy i j with hlt|rfl|hlt
  ·have:=hp i j hi hj hlt;omega
  ·rfl
  ·have:=hp j i hj hi hlt;omega
 refine⟨?_,by rw[e1,z7 hj,qB]⟩;rw[e1];congr 1;refine(List.findIdx_eq hj).2 ⟨by simpa using e2,fun k hk=>?_⟩ |>.symm
 have:=List.pairwise_iff_getElem.1 h.1 k j (by omega) hj hk;rw[qB]at this;simp;omega
theorem ady (h:y5 ds ns ss nx) {x:eh} (hx:x ∈ ds) (y:eh):ds.set (gQ ds x.f0).toNat y=ds.map (fun z=>if z.f0=x.f0 then y else z):=by
 obtain⟨j,hj,e1,e2⟩:=I3 (MH.2 ⟨x,hx,rfl⟩);rw[e1,Int.toNat_natCast];rw[z7 hj]at e2;refine List.ext_getElem (by simp) (fun i h1 h2=>?_);rw[List.getElem_map,List.getElem_set];have hi:i<ds.length:=by simpa using h1
 by_cases e:j=i
 ·subst e;rw[if_pos rfl,if_pos e2]
 ·rw[if_neg e,if_neg];intro hc;have hp:=List.pairwise_iff_getElem.1 h.1
  rcases Nat.lt_or_ge i j with hlt|hge
  ·have:=hp i j hi hj hlt;omega
  ·have:=hp j i hj hi (by omega);omega
theorem TY (h:kD ds ns ss nx) (f:eh→eh) (h0:∀x ∈ ds,(f x).f0=x.f0) (h2:∀x ∈ ds,0≤(f x).f2∧(f x).f2≤((f x).f1.length:Int)) (ht:gl (ds.map f)≤60000):kD (ds.map f) ns ss nx:=by
 have hk:∀(l:List gD),qc ds l→qc (ds.map f) l:=fun l hl=>hl.keep (fun e _ x hx hxe=>⟨f x,List.mem_map.2 ⟨x,hx,rfl⟩,(h0 x hx).trans hxe⟩)
 refine⟨h.n1,⟨?_,fun y hy=>?_⟩,ht,hk ns h.e1,hk ss h.e2⟩
 ·rw[List.pairwise_map];exact h.i1.1.imp_of_mem (fun ha hb hab=>by rw[h0 _ ha,h0 _ hb];exact hab)
 ·obtain⟨x,hx,rfl⟩:=List.mem_map.1 hy;obtain⟨a,b,_,_,e⟩:=h.i1.2 x hx;rw[h0 x hx];exact⟨a,b,(h2 x hx).1,(h2 x hx).2,e⟩
theorem aeb (f:eh→eh) (ds:List eh) (hf:∀x ∈ ds,(f x).f1.length≤x.f1.length):gl (ds.map f)≤gl ds:=by
 unfold gl
 induction ds with
 |nil=>simp
 |cons x r ih=>
  simp only[List.map_cons,List.sum_cons];have:=ih (fun y hy=>hf y (List.mem_cons_of_mem _ hy));have:=hf x List.mem_cons_self;omega
theorem Vo (f:eh→eh) (ds:List eh) (hf:∀x ∈ ds,(f x).f1.length=x.f1.length):gl (ds.map f)=gl ds:=by
 unfold gl;rw[List.map_map];congr 1;exact List.map_congr_left hf
theorem aea (a b:List eh):gl (a++b)=gl a+gl b:=by unfold gl;simp
theorem aqm (h:ds.Pairwise (fun a b=>a.f0<b.f0)) (id:Int) (n:Nat) (f:eh→eh) (h1:∀x,x.f0=id→(f x).f1.length≤x.f1.length+n):gl (ds.map (fun z=>if z.f0=id then f z else z))≤gl ds+n:=by
 induction ds with
 |nil=>simp[gl]
 |cons x r ih=>
  obtain⟨p1,p2⟩:=List.pairwise_cons.1 h;have e:∀(l:List eh) (y:eh),gl (y::l)=y.f1.length+gl l:=fun l y=>by simp[gl]
  rw[List.map_cons,e,e];by_cases hx:x.f0=id
  ·rw[if_pos hx]
   have hr:r.map (fun z=>if z.f0=id then f z else z)=r:=by
    refine(List.map_congr_left (fun z hz=>?_)).trans (List.map_id r);have:=p1 z hz;rw[if_neg (by omega)];rfl
   rw[hr];have:=h1 x hx;omega
  ·rw[if_neg hx];have:=ih p2;omega
theorem aiP (h:kD ds ns ss nx) (ho:ir nm=true) (hn:∀e ∈ ns,e.f0≠nm):pS ds ns ss nx nm=mW ds ns ss nx (ds++[(⟨nx,[],0⟩:eh)]) (ky (⟨nm,nx⟩:gD) ns) ss (nx+1):=by
 unfold pS;rw[aiG h ho hn,if_neg (by decide),if_neg (by decide),nn (by have:=h.n1;omega) (by have:=h.n1;omega)]
theorem aiQ (h:(pS ds ns ss nx nm).2.2.2.2≠0):ix (pS ds ns ss nx nm)=⟨ds,ns,ss,nx⟩:=by
 unfold pS at h ⊢;split
 ·rfl
 ·split
  ·rfl
  ·rename_i h1 h2;rw[if_neg h1,if_neg h2]at h
   rcases DF ds ns ss nx (ds++[(⟨nx,[],0⟩:eh)]) (ky (⟨nm,nx⟩:gD) ns) ss (wrap64 (nx+1)) with ⟨_,e⟩|⟨_,e⟩
   ·rw[e]at h;exact absurd rfl h
   ·rw[e];rfl
theorem aiR {d:ob} {r:lQ} (hr:pS d.f0 d.f1 d.f2 d.f3 nm=r) (h:(r.2.2.2.2 != 0)=true):ix r=d:=by
 subst hr;exact aiQ (by simpa using h)
theorem adF (h:kD ds ns ss nx):uU ds ns ss nx=(kept ds ns ns,ns,ns,nx,0)∧kD (kept ds ns ns) ns ns nx:=by
 have hk:=ac4 h h.e1 h.e1;unfold uU;rw[vX.2 h,if_pos rfl]
 rcases DF ds ns ss nx ds ns ns nx with ⟨_,e⟩|⟨hc,_⟩
 ·exact⟨e,hk⟩
 ·exact absurd hk hc
def grow (id:Int) (b:List Int) (z:eh):eh:=if z.f0=id then ⟨z.f0,z.f1++b,z.f2⟩ else z
def sure (id:Int) (z:eh):eh:=if z.f0=id then ⟨z.f0,z.f1,(z.f1.length:Int)⟩ else z
theorem ahU (h:y5 ds ns ss nx) {x:eh} (hx:x ∈ ds) (b:List Int):Dq ds (gQ ds x.f0).toNat b=ds.map (grow x.f0 b):=by
 obtain⟨e1,e2⟩:=I2 h hx;have hj:((gQ ds x.f0).toNat:Int)=gQ ds x.f0:=by rw[e1,Int.toNat_natCast]
 unfold Dq;rw[hj,e2,ady h hx];refine List.map_congr_left (fun z hz=>?_);unfold grow;split
 ·rename_i hc;obtain⟨_,e3⟩:=I2 h hz;rw[hc,e2]at e3;rw[←e3]
 ·rfl
theorem ap6 (h:y5 ds ns ss nx) {x:eh} (hx:x ∈ ds):lM ds (gQ ds x.f0).toNat=ds.map (sure x.f0):=by
 obtain⟨e1,e2⟩:=I2 h hx;have hj:((gQ ds x.f0).toNat:Int)=gQ ds x.f0:=by rw[e1,Int.toNat_natCast]
 unfold lM;rw[hj,e2,ady h hx];refine List.map_congr_left (fun z hz=>?_);unfold sure;split
 ·rename_i hc;obtain⟨_,e3⟩:=I2 h hz;rw[hc,e2]at e3;rw[←e3]
 ·rfl
theorem ad9 (h:y5 ds ns ss nx) (id:Int) (b:List Int):gl (ds.map (grow id b))≤gl ds+b.length:=aqm h.1 id b.length (fun z=>⟨z.f0,z.f1++b,z.f2⟩) (fun z _=>by simp)
theorem TX (h:kD ds ns ss nx) (id:Int) (b:List Int) (ht:gl (ds.map (grow id b))≤60000):kD (ds.map (grow id b)) ns ss nx:=by
 refine TY h _ (fun x _=>by unfold grow;split<;>rfl) (fun x hx=>?_) ht;obtain⟨_,_,c,d,_⟩:=h.i1.2 x hx;unfold grow;split
 ·simp only[List.length_append];omega
 ·exact⟨c,d⟩
theorem ac5 (h:kD ds ns ss nx) (id:Int):kD (ds.map (sure id)) ns ss nx:=by
 refine TY h _ (fun x _=>by unfold sure;split<;>rfl) (fun x hx=>?_) ?_
 ·obtain⟨_,_,c,d,_⟩:=h.i1.2 x hx;unfold sure;split
  ·exact⟨by simp,by simp⟩
  ·exact⟨c,d⟩
 ·rw[Vo _ _ (fun x _=>by unfold sure;split<;>rfl)];exact h.t1
theorem Yx (h:kD ds ns ss nx) {e:gD} (he:e ∈ ns) (hn:e.f0=nm) (b:List Int):sx ds ns ss nx nm b=if gl (ds.map (grow e.f1 b))≤60000 then (ds.map (grow e.f1 b),ns,ss,nx,0) else (ds,ns,ss,nx,4):=by
 obtain⟨x,hx,hxe⟩:=(h.e1.2.1 e he).2;unfold sx;rw[YT h he hn,if_pos rfl,(MC h.e1 he hn).1,←hxe,ahU h.i1 hx];split
 ·rename_i ht;have hk:=TX h x.f0 b ht;have hself:=acT hk.i1
  rcases DF ds ns ss nx (ds.map (grow x.f0 b)) ns ss nx with ⟨_,e2⟩|⟨hc,_⟩
  ·rw[e2,hself]
  ·rw[hself]at hc;exact absurd hk hc
 ·rename_i ht
  have hself:kept (ds.map (grow x.f0 b)) ns ss=ds.map (grow x.f0 b):=by
   refine acT (nx:=nx) ⟨?_,fun y hy=>?_⟩
   ·rw[List.pairwise_map];exact h.i1.1.imp (fun hab=>by unfold grow;split<;>split<;>exact hab)
   ·obtain⟨z,hz,rfl⟩:=List.mem_map.1 hy;obtain⟨a1,a2,a3,a4,a5⟩:=h.i1.2 z hz;unfold grow;split
    ·exact⟨a1,a2,a3,by simp only[List.length_append];omega,a5⟩
    ·exact⟨a1,a2,a3,a4,a5⟩
  rcases DF ds ns ss nx (ds.map (grow x.f0 b)) ns ss nx with ⟨hc,_⟩|⟨_,e2⟩
  ·rw[hself]at hc;exact absurd hc.t1 ht
  ·exact e2
theorem adG (h:kD ds ns ss nx) {e:gD} (he:e ∈ ns) (hn:e.f0=nm):tA ds ns ss nx nm=(ds.map (sure e.f1),ns,ss,nx,0):=by
 obtain⟨x,hx,hxe⟩:=(h.e1.2.1 e he).2;unfold tA;rw[YT h he hn,if_pos rfl,(MC h.e1 he hn).1,←hxe,ap6 h.i1 hx]
theorem Q7 (h:kD ds ns ss nx) {keep:Int} (hk:0≤keep):pt (bS ds ns ss nx) ds ns ss nx keep=((ds.filter (fun x=>named ss x.f0)).map (kO keep),ss,ss,nx):=by
 unfold pt;rw[if_pos ⟨vX.2 h,hk⟩];have:=ade ds z80 (fun x=>named ss x.f0)
 have e2:((List.range ds.length).filter (fun (i:Nat)=>named ss (aa ds (i:Int)).f0)).map (fun (i:Nat)=>kO keep (aa ds (i:Int)))=(((List.range ds.length).filter (fun (i:Nat)=>named ss (ds.getD i z80).f0)).map (fun (i:Nat)=>ds.getD i z80)).map (kO keep):=by
  rw[List.map_map];unfold aa;simp only[Int.toNat_natCast];rfl
 rw[e2,this]
theorem Gl {keep:Int} (hk:0≤keep) {x:eh} (h:0≤x.f2∧x.f2≤(x.f1.length:Int)):(kO keep x).f0=x.f0∧(kO keep x).f2=((kO keep x).f1.length:Int)∧(∃n,x.f2.toNat≤n∧(kO keep x).f1=x.f1.take n):=by
 unfold kO;split
 ·refine⟨rfl,?_,(x.f2+keep).toNat,by omega,rfl⟩;simp only[List.length_take];omega
 ·exact⟨rfl,rfl,x.f1.length,by omega,by rw[List.take_length]⟩
theorem MT (h:kD ds ns ss nx) {keep:Int} (hk:0≤keep):kD ((ds.filter (fun x=>named ss x.f0)).map (kO keep)) ss ss nx:=by
 have h1:=ac4 h h.e2 h.e2;rw[yn]at h1;simp only[Bool.or_self]at h1;have hf:∀x ∈ ds.filter (fun x=>named ss x.f0),0≤x.f2∧x.f2≤(x.f1.length:Int):=fun x hx=>⟨(h1.i1.2 x hx).2.2.1,(h1.i1.2 x hx).2.2.2.1⟩
 refine TY h1 _ (fun x hx=>(Gl hk (hf x hx)).1) (fun x hx=>?_) (Nat.le_trans (aeb _ _ (fun x hx=>?_)) h1.t1)
 ·rw[(Gl hk (hf x hx)).2.1];exact⟨by omega,Int.le_refl _⟩
 ·obtain⟨n,_,e⟩:=(Gl hk (hf x hx)).2.2;rw[e,List.length_take];omega
theorem ah5 (h:kD ds ns ss nx) {e:gD} (he:e ∈ ns) (hn:e.f0=nm) {x:eh} (hx:x ∈ ds) (hxe:x.f0=e.f1):sy (bS ds ns ss nx) ds ns nm=(x.f1,true):=by
 obtain⟨_,h2,h3⟩:=MC h.e1 he hn;unfold sy;rw[if_pos ⟨vX.2 h,h2⟩,h3,←hxe,(I2 h.i1 hx).2]
theorem ah6 {ok:Bool} (hn:∀e ∈ ns,e.f0≠nm):sy ok ds ns nm=([],false):=by
 unfold sy
 rcases look ns nm with ⟨e,he,h1,_⟩|⟨h1,_,_⟩
 ·exact absurd h1 (hn e he)
 ·rw[if_neg (fun hc=>by omega)]
end
structure Gd (P:ByteArray→Prop) (m:Nat) (d:ob):Prop where
 ok:FF d
 tt:gl d.f0≤m
 g1:∀e ∈ d.f1,P e.f0
 g2:∀e ∈ d.f2,P e.f0
section
variable {P:ByteArray→Prop} {m m':Nat} {d:ob} {nm nq:ByteArray}
theorem Gd.more (h:Gd P m d) (hm:m≤m'):Gd P m' d:=⟨h.ok,Nat.le_trans h.tt hm,h.g1,h.g2⟩
theorem Gd.ends (h:Gd P m d) {ds:List eh} {ns ss:List gD} {nx:Int} (ht:gl ds≤m) (g1:∀e ∈ ns,P e.f0) (g2:∀e ∈ ss,P e.f0):Gd P m (ix (mW d.f0 d.f1 d.f2 d.f3 ds ns ss nx)):=by
 rcases DF d.f0 d.f1 d.f2 d.f3 ds ns ss nx with ⟨h1,e⟩|⟨_,e⟩
 ·rw[e];exact⟨h1,Nat.le_trans (by rw[yn];exact Es _ _) ht,g1,g2⟩
 ·rw[e];exact h
theorem Gd.create (h:Gd P m d) (hn:P nm):Gd P m (ix (pS d.f0 d.f1 d.f2 d.f3 nm)):=by
 unfold pS;split
 ·exact h
 ·split
  ·exact h
  ·exact h.ends (by rw[aea];simpa[gl] using h.tt) (fun e he=>by rcases I4 he with rfl|he;exact hn;exact h.g1 e he) h.g2
theorem Gd.append (h:Gd P m d) (b:List Int):Gd P (m+b.length) (ix (sx d.f0 d.f1 d.f2 d.f3 nm b)):=by
 by_cases hc:fC (bS d.f0 d.f1 d.f2 d.f3) d.f1 nm=0
 ·obtain⟨_,e,he,hn⟩:=YS hc;rw[Yx h.ok he hn];split
  ·rename_i ht;exact⟨TX h.ok e.f1 b ht,Nat.le_trans (ad9 h.ok.i1 e.f1 b) (by have:=h.tt;show gl d.f0+b.length≤_;omega),h.g1,h.g2⟩
  ·exact h.more (Nat.le_add_right _ _)
 ·unfold sx;rw[if_neg hc];exact h.more (Nat.le_add_right _ _)
theorem Gd.sync (h:Gd P m d):Gd P m (ix (tA d.f0 d.f1 d.f2 d.f3 nm)):=by
 by_cases hc:fC (bS d.f0 d.f1 d.f2 d.f3) d.f1 nm=0
 ·obtain⟨_,e,he,hn⟩:=YS hc;rw[adG h.ok he hn];exact⟨ac5 h.ok e.f1,by show gl (d.f0.map _)≤m;rw[Vo _ _ (fun x _=>by unfold sure;split<;>rfl)];exact h.tt,h.g1,h.g2⟩
 ·unfold tA;rw[if_neg hc];exact h
theorem Gd.ap8 (h:Gd P m d):Gd P m (ix (uU d.f0 d.f1 d.f2 d.f3)):=by
 obtain⟨e,hk⟩:=adF h.ok;rw[e];exact⟨hk,Nat.le_trans (by show gl (kept _ _ _)≤gl d.f0;rw[yn];exact Es _ _) h.tt,h.g1,h.g1⟩
theorem Gd.remove (h:Gd P m d):Gd P m (ix (Jj d.f0 d.f1 d.f2 d.f3 nm)):=by
 unfold Jj;split
 ·exact h.ends h.tt (fun e he=>h.g1 e (EA he)) h.g2
 ·exact h
theorem Gd.rename (h:Gd P m d) (hn:P nq):Gd P m (ix (M7 d.f0 d.f1 d.f2 d.f3 nm nq)):=by
 unfold M7;split
 ·exact h
 ·split
  ·split
   ·exact h
   ·refine h.ends h.tt (fun e he=>?_) h.g2
    rcases I4 he with rfl|he
    ·exact hn
    ·exact h.g1 e (EA (EA he))
  ·exact h
theorem Gd.ajT (h:Gd P m d) {keep:Int} (hk:0≤keep):Gd P m ⟨(pt (bS d.f0 d.f1 d.f2 d.f3) d.f0 d.f1 d.f2 d.f3 keep).1,(pt (bS d.f0 d.f1 d.f2 d.f3) d.f0 d.f1 d.f2 d.f3 keep).2.1,(pt (bS d.f0 d.f1 d.f2 d.f3) d.f0 d.f1 d.f2 d.f3 keep).2.2.1,(pt (bS d.f0 d.f1 d.f2 d.f3) d.f0 d.f1 d.f2 d.f3 keep).2.2.2⟩:=by
 rw[Q7 h.ok hk];refine⟨MT h.ok hk,Nat.le_trans (aeb _ _ (fun x hx=>?_)) (Nat.le_trans (Es _ _) h.tt),h.g2,h.g2⟩;have:=h.ok.i1.2 x (List.mem_filter.1 hx).1;obtain⟨n,_,e⟩:=(Gl hk ⟨this.2.2.1,this.2.2.2.1⟩).2.2;rw[e,List.length_take];omega
end
end Go.Proofs.Ytgpkdbnikcghgaa.MPD
