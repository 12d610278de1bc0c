/- What each change leaves of a disk that is right; and of a disk that is drawn (names of N alone, m bytes at most). -/
import Derived.Test.YtgpkdbnikcghgaaMPG
set_option linter.unusedVariables false
set_option linter.unusedSimpArgs false
namespace Go.Proofs.Ytgpkdbnikcghgaa.MPD
open Go.RowKit Go.Proofs.Ytgpkdbnikcghgaa.MD Go.Proofs.YtgpkdbnikcghgaaW.PrintWords Go.Proofs.YtgpkdbnikcghgaaW.PrintLast Go.Proofs.YtgpkdbnikcghgaaW.PrintMore
def hU (r:lH):nw:=⟨r.1,r.2.1,r.2.2.1,r.2.2.2.1⟩
abbrev sO (d:nw):Prop:=ke d.f0 d.f1 d.f2 d.f3
section
variable {ds:List eE} {ns ss:List gV} {nx:Int} {nm:ByteArray}
theorem AM (d0:List eE) (n0 s0:List gV) (x0:Int) (ds:List eE) (ns ss:List gV) (nx:Int) :
 (ke (kept ds ns ss) ns ss nx∧mN d0 n0 s0 x0 ds ns ss nx=(kept ds ns ss,ns,ss,nx,0))∨(¬ke (kept ds ns ss) ns ss nx∧mN d0 n0 s0 x0 ds ns ss nx=(d0,n0,s0,x0,4)):=by
 unfold mN;by_cases h:b8 (kept ds ns ss) ns ss nx=true
 ·exact Or.inl ⟨xh.1 h,if_pos h⟩
 ·exact Or.inr ⟨fun h2=>h (xh.2 h2),if_neg h⟩
theorem look (ns:List gV) (nm:ByteArray):(∃e ∈ ns,e.f0=nm∧jY ns nm=e.f1∧0≤nameAt ns nm∧(av ns (nameAt ns nm)).f1=e.f1)∨(nameAt ns nm = -1∧jY ns nm=0∧∀e ∈ ns,e.f0≠nm):=by
 unfold nameAt jY
 rcases Df (fun i=>decide ((av ns (i:Int)).f0.toList=nm.toList)) ns.length 0 with ⟨j,_,j2,j3,j4⟩|⟨j1,j2⟩
 ·left;have hj:j<ns.length:=by omega
  refine⟨ns[j],List.getElem_mem hj,?_,?_,?_,?_⟩
  ·have:=of_decide_eq_true j3;rw[xV hj]at this;exact UC this
  ·rw[j4,xV hj]
  ·rw[j4];omega
  ·rw[j4,xV hj]
 ·refine Or.inr ⟨j2 _ _,j2 _ _,fun e he hc=>?_⟩;obtain⟨i,hi,rfl⟩:=List.getElem_of_mem he;have:=j1 i (by omega) (by omega);rw[xV hi,decide_eq_false_iff_not,hc]at this;exact this rfl
theorem aiI (h:pW ds ns) {e e':gV} (he:e ∈ ns) (he':e' ∈ ns) (hn:e.f0=e'.f0):e=e':=by
 obtain⟨i,hi,rfl⟩:=List.getElem_of_mem he;obtain⟨j,hj,rfl⟩:=List.getElem_of_mem he';have hp:=List.pairwise_iff_getElem.1 h.2.2.1
 rcases Nat.lt_trichotomy i j with hlt|rfl|hlt
 ·exact absurd (congrArg ByteArray.toList hn) (Fs (hp i j hi hj hlt))
 ·rfl
 ·exact absurd (congrArg ByteArray.toList hn.symm) (Fs (hp j i hj hi hlt))
theorem Iq (h:pW ds ns) {e:gV} (he:e ∈ ns) (hn:e.f0=nm):jY ns nm=e.f1∧0≤nameAt ns nm∧(av ns (nameAt ns nm)).f1=e.f1:=by
 rcases look ns nm with ⟨e',he',h1,h2,h3,h4⟩|⟨_,_,h3⟩
 ·rw[aiI h he he' (hn.trans h1.symm)];exact⟨h2,h3,h4⟩
 ·exact absurd hn (h3 e he)
theorem PW (h:ke ds ns ss nx) {e:gV} (he:e ∈ ns) (hn:e.f0=nm):gf (b8 ds ns ss nx) ns nm=0:=by
 unfold gf;have h1:ja nm=true:=hn▸(h.e1.2.1 e he).1;rw[xh.2 h,h1,if_pos (by decide),if_neg (by have:=(Iq h.e1 he hn).2.1;omega)]
theorem PV (hc:gf (b8 ds ns ss nx) ns nm=0):ke ds ns ss nx∧∃e ∈ ns,e.f0=nm:=by
 obtain⟨h1,h2⟩:=ahW hc;refine⟨xh.1 h1,?_⟩
 rcases look ns nm with ⟨e,he,h3,_⟩|⟨h3,_⟩
 ·exact⟨e,he,h3⟩
 ·omega
theorem Iu (h:yD ds ns ss nx) {x:eE} (hx:x ∈ ds):js ds x.f0=((ds.findIdx (fun y=>decide (y.f0=x.f0)):Nat):Int)∧aa ds (js ds x.f0)=x:=by
 have h0:0≤js ds x.f0:=L5.2 ⟨x,hx,rfl⟩;obtain⟨j,hj,e1,e2⟩:=L4 h0;rw[xW hj]at e2
 have oc:ds[j]=x:=by
  obtain⟨i,hi,rfl⟩:=List.getElem_of_mem hx;have hp:=List.pairwise_iff_getElem.1 h.1
  rcases Nat.lt_trichotomy i j with hlt|rfl|hlt
  ·have:=hp i j hi hj hlt;omega
  ·rfl
  ·have:=hp j i hj hi hlt;omega
 refine⟨?_,by rw[e1,xW hj,oc]⟩;rw[e1];congr 1;refine(List.findIdx_eq hj).2 ⟨by simpa using e2,fun k hk=>?_⟩ |>.symm
 have:=List.pairwise_iff_getElem.1 h.1 k j (by omega) hj hk;rw[oc]at this;simp;omega
theorem acR (h:yD ds ns ss nx) {x:eE} (hx:x ∈ ds) (y:eE):ds.set (js ds x.f0).toNat y=ds.map (fun z=>if z.f0=x.f0 then y else z):=by
 obtain⟨j,hj,e1,e2⟩:=L4 (L5.2 ⟨x,hx,rfl⟩);rw[e1,Int.toNat_natCast];rw[xW hj]at e2;refine List.ext_getElem (by simp) (fun i h1 h2=>?_);rw[List.getElem_map,List.getElem_set];have hi:i<ds.length:=by simpa using h1
 by_cases e:j=i
 ·subst e;rw[if_pos rfl,if_pos e2]
 ·rw[if_neg e,if_neg];intro hc;have hp:=List.pairwise_iff_getElem.1 h.1
  rcases Nat.lt_or_ge i j with hlt|hge
  ·have:=hp i j hi hj hlt;omega
  ·have:=hp j i hj hi (by omega);omega
theorem Ti (h:ke ds ns ss nx) (f:eE→eE) (h0:∀x ∈ ds,(f x).f0=x.f0) (h2:∀x ∈ ds,0≤(f x).f2∧(f x).f2≤((f x).f1.length:Int)) (ht:gU (ds.map f)≤60000):ke (ds.map f) ns ss nx:=by
 have hk:∀(l:List gV),pW ds l→pW (ds.map f) l:=fun l hl=>hl.keep (fun e _ x hx hxe=>⟨f x,List.mem_map.2 ⟨x,hx,rfl⟩,(h0 x hx).trans hxe⟩)
 refine⟨h.n1,⟨?_,fun y hy=>?_⟩,ht,hk ns h.e1,hk ss h.e2⟩
 ·rw[List.pairwise_map];exact h.i1.1.imp_of_mem (fun ha hb hab=>by rw[h0 _ ha,h0 _ hb];exact hab)
 ·obtain⟨x,hx,rfl⟩:=List.mem_map.1 hy;obtain⟨a,b,_,_,e⟩:=h.i1.2 x hx;rw[h0 x hx];exact⟨a,b,(h2 x hx).1,(h2 x hx).2,e⟩
theorem adx (f:eE→eE) (ds:List eE) (hf:∀x ∈ ds,(f x).f1.length≤x.f1.length):gU (ds.map f)≤gU ds:=by
 unfold gU
 induction ds with
 |nil=>simp
 |cons x r ih=>
  simp only[List.map_cons,List.sum_cons];have:=ih (fun y hy=>hf y (List.mem_cons_of_mem _ hy));have:=hf x List.mem_cons_self;omega
theorem adw (f:eE→eE) (ds:List eE) (hf:∀x ∈ ds,(f x).f1.length=x.f1.length):gU (ds.map f)=gU ds:=by
 unfold gU;rw[List.map_map];congr 1;exact List.map_congr_left hf
theorem apJ (a b:List eE):gU (a++b)=gU a+gU b:=by unfold gU;simp
theorem apK (h:ds.Pairwise (fun a b=>a.f0<b.f0)) (id:Int) (n:Nat) (f:eE→eE) (h1:∀x,x.f0=id→(f x).f1.length≤x.f1.length+n):gU (ds.map (fun z=>if z.f0=id then f z else z))≤gU ds+n:=by
 induction ds with
 |nil=>simp[gU]
 |cons x r ih=>
  obtain⟨p1,p2⟩:=List.pairwise_cons.1 h;have e:∀(l:List eE) (y:eE),gU (y::l)=y.f1.length+gU l:=fun l y=>by simp[gU]
  rw[List.map_cons,e,e];by_cases hx:x.f0=id
  ·rw[if_pos hx]
   have hr:r.map (fun z=>if z.f0=id then f z else z)=r:=by
    refine(List.map_congr_left (fun z hz=>?_)).trans (List.map_id r);have:=p1 z hz;rw[if_neg (by omega)];rfl
   rw[hr];have:=h1 x hx;omega
  ·rw[if_neg hx];have:=ih p2;omega
theorem aoV (h:ke ds ns ss nx) {e:gV} (he:e ∈ ns) (hn:e.f0=nm):sm ds ns ss nx nm=(kept ds (gG ns nm) ss,gG ns nm,ss,nx,0)∧ke (kept ds (gG ns nm) ss) (gG ns nm) ss nx:=by
 have hk:ke (kept ds (gG ns nm) ss) (gG ns nm) ss nx:=Th h (by rw[Nd];exact h.e1.filter _) h.e2;unfold sm;rw[PW h he hn,if_pos rfl]
 rcases AM ds ns ss nx ds (gG ns nm) ss nx with ⟨_,e⟩|⟨hc,_⟩
 ·exact⟨e,hk⟩
 ·exact absurd hk hc
theorem apw (h:ke ds ns ss nx):DO ds ns ss nx=(kept ds ns ns,ns,ns,nx,0)∧ke (kept ds ns ns) ns ns nx:=by
 have hk:=Th h h.e1 h.e1;unfold DO;rw[xh.2 h,if_pos rfl]
 rcases AM ds ns ss nx ds ns ns nx with ⟨_,e⟩|⟨hc,_⟩
 ·exact⟨e,hk⟩
 ·exact absurd hk hc
def grow (id:Int) (b:List Int) (z:eE):eE:=if z.f0=id then ⟨z.f0,z.f1++b,z.f2⟩ else z
def sure (id:Int) (z:eE):eE:=if z.f0=id then ⟨z.f0,z.f1,(z.f1.length:Int)⟩ else z
theorem ahd (h:yD ds ns ss nx) {x:eE} (hx:x ∈ ds) (b:List Int):Fl ds (js ds x.f0).toNat b=ds.map (grow x.f0 b):=by
 obtain⟨e1,e2⟩:=Iu h hx;have hj:((js ds x.f0).toNat:Int)=js ds x.f0:=by rw[e1,Int.toNat_natCast]
 unfold Fl;rw[hj,e2,acR h hx];refine List.map_congr_left (fun z hz=>?_);unfold grow;split
 ·rename_i hc;obtain⟨_,e3⟩:=Iu h hz;rw[hc,e2]at e3;rw[←e3]
 ·rfl
theorem apu (h:yD ds ns ss nx) {x:eE} (hx:x ∈ ds):Ul ds (js ds x.f0).toNat=ds.map (sure x.f0):=by
 obtain⟨e1,e2⟩:=Iu h hx;have hj:((js ds x.f0).toNat:Int)=js ds x.f0:=by rw[e1,Int.toNat_natCast]
 unfold Ul;rw[hj,e2,acR h hx];refine List.map_congr_left (fun z hz=>?_);unfold sure;split
 ·rename_i hc;obtain⟨_,e3⟩:=Iu h hz;rw[hc,e2]at e3;rw[←e3]
 ·rfl
theorem apI (h:yD ds ns ss nx) (id:Int) (b:List Int):gU (ds.map (grow id b))≤gU ds+b.length:=apK h.1 id b.length (fun z=>⟨z.f0,z.f1++b,z.f2⟩) (fun z _=>by simp)
theorem acp (h:ke ds ns ss nx) (id:Int) (b:List Int) (ht:gU (ds.map (grow id b))≤60000):ke (ds.map (grow id b)) ns ss nx:=by
 refine Ti h _ (fun x _=>by unfold grow;split<;>rfl) (fun x hx=>?_) ht;obtain⟨_,_,c,d,_⟩:=h.i1.2 x hx;unfold grow;split
 ·simp only[List.length_append];omega
 ·exact⟨c,d⟩
theorem aoC (h:ke ds ns ss nx) (id:Int):ke (ds.map (sure id)) ns ss nx:=by
 refine Ti h _ (fun x _=>by unfold sure;split<;>rfl) (fun x hx=>?_) ?_
 ·obtain⟨_,_,c,d,_⟩:=h.i1.2 x hx;unfold sure;split
  ·exact⟨by simp,by simp⟩
  ·exact⟨c,d⟩
 ·rw[adw _ _ (fun x _=>by unfold sure;split<;>rfl)];exact h.t1
theorem ahh (h:ke ds ns ss nx) {e:gV} (he:e ∈ ns) (hn:e.f0=nm) (b:List Int):Ay ds ns ss nx nm b=if gU (ds.map (grow e.f1 b))≤60000 then (ds.map (grow e.f1 b),ns,ss,nx,0) else (ds,ns,ss,nx,4):=by
 obtain⟨x,hx,hxe⟩:=(h.e1.2.1 e he).2;unfold Ay;rw[PW h he hn,if_pos rfl,(Iq h.e1 he hn).1,←hxe,ahd h.i1 hx];split
 ·rename_i ht;have hk:=acp h x.f0 b ht;have hself:=ace hk.i1
  rcases AM ds ns ss nx (ds.map (grow x.f0 b)) ns ss nx with ⟨_,e2⟩|⟨hc,_⟩
  ·rw[e2,hself]
  ·rw[hself]at hc;exact absurd hk hc
 ·rename_i ht
  have hself:kept (ds.map (grow x.f0 b)) ns ss=ds.map (grow x.f0 b):=by
   refine ace (nx:=nx) ⟨?_,fun y hy=>?_⟩
   ·rw[List.pairwise_map];exact h.i1.1.imp (fun hab=>by unfold grow;split<;>split<;>exact hab)
   ·obtain⟨z,hz,rfl⟩:=List.mem_map.1 hy;obtain⟨a1,a2,a3,a4,a5⟩:=h.i1.2 z hz;unfold grow;split
    ·exact⟨a1,a2,a3,by simp only[List.length_append];omega,a5⟩
    ·exact⟨a1,a2,a3,a4,a5⟩
  rcases AM ds ns ss nx (ds.map (grow x.f0 b)) ns ss nx with ⟨hc,_⟩|⟨_,e2⟩
  ·rw[hself]at hc;exact absurd hc.t1 ht
  ·exact e2
theorem apx (h:ke ds ns ss nx) {e:gV} (he:e ∈ ns) (hn:e.f0=nm):BZ ds ns ss nx nm=(ds.map (sure e.f1),ns,ss,nx,0):=by
 obtain⟨x,hx,hxe⟩:=(h.e1.2.1 e he).2;unfold BZ;rw[PW h he hn,if_pos rfl,(Iq h.e1 he hn).1,←hxe,apu h.i1 hx]
theorem QC (h:ke ds ns ss nx) {keep:Int} (hk:0≤keep):pc (b8 ds ns ss nx) ds ns ss nx keep=((ds.filter (fun x=>named ss x.f0)).map (mg keep),ss,ss,nx):=by
 unfold pc;rw[if_pos ⟨xh.2 h,hk⟩];have:=acw ds z80 (fun x=>named ss x.f0)
 have e2:((List.range ds.length).filter (fun (i:Nat)=>named ss (aa ds (i:Int)).f0)).map (fun (i:Nat)=>mg keep (aa ds (i:Int)))=(((List.range ds.length).filter (fun (i:Nat)=>named ss (ds.getD i z80).f0)).map (fun (i:Nat)=>ds.getD i z80)).map (mg keep):=by
  rw[List.map_map];unfold aa;simp only[Int.toNat_natCast];rfl
 rw[e2,this]
theorem KE {keep:Int} (hk:0≤keep) {x:eE} (h:0≤x.f2∧x.f2≤(x.f1.length:Int)):(mg keep x).f0=x.f0∧(mg keep x).f2=((mg keep x).f1.length:Int)∧(∃n,x.f2.toNat≤n∧(mg keep x).f1=x.f1.take n):=by
 unfold mg;split
 ·refine⟨rfl,?_,(x.f2+keep).toNat,by omega,rfl⟩;simp only[List.length_take];omega
 ·exact⟨rfl,rfl,x.f1.length,by omega,by rw[List.take_length]⟩
theorem acq (h:ke ds ns ss nx) {keep:Int} (hk:0≤keep):ke ((ds.filter (fun x=>named ss x.f0)).map (mg keep)) ss ss nx:=by
 have h1:=Th h h.e2 h.e2;rw[DG]at h1;simp only[Bool.or_self]at h1;have hf:∀x ∈ ds.filter (fun x=>named ss x.f0),0≤x.f2∧x.f2≤(x.f1.length:Int):=fun x hx=>⟨(h1.i1.2 x hx).2.2.1,(h1.i1.2 x hx).2.2.2.1⟩
 refine Ti h1 _ (fun x hx=>(KE hk (hf x hx)).1) (fun x hx=>?_) (Nat.le_trans (adx _ _ (fun x hx=>?_)) h1.t1)
 ·rw[(KE hk (hf x hx)).2.1];exact⟨by omega,Int.le_refl _⟩
 ·obtain⟨n,_,e⟩:=(KE hk (hf x hx)).2.2;rw[e,List.length_take];omega
theorem XN (h:ke ds ns ss nx) {e:gV} (he:e ∈ ns) (hn:e.f0=nm) {x:eE} (hx:x ∈ ds) (hxe:x.f0=e.f1):oM (b8 ds ns ss nx) ds ns nm=(x.f1,true):=by
 obtain⟨_,h2,h3⟩:=Iq h.e1 he hn;unfold oM;rw[if_pos ⟨xh.2 h,h2⟩,h3,←hxe,(Iu h.i1 hx).2]
theorem XO {ok:Bool} (hn:∀e ∈ ns,e.f0≠nm):oM ok ds ns nm=([],false):=by
 unfold oM
 rcases look ns nm with ⟨e,he,h1,_⟩|⟨h1,_,_⟩
 ·exact absurd h1 (hn e he)
 ·rw[if_neg (fun hc=>by omega)]
end
structure Gd (P:ByteArray→Prop) (m:Nat) (d:nw):Prop where
 ok:sO d
 tt:gU d.f0≤m
 g1:∀e ∈ d.f1,P e.f0
 g2:∀e ∈ d.f2,P e.f0
section
variable {P:ByteArray→Prop} {m m':Nat} {d:nw} {nm nq:ByteArray}
theorem Gd.more (h:Gd P m d) (hm:m≤m'):Gd P m' d:=⟨h.ok,Nat.le_trans h.tt hm,h.g1,h.g2⟩
theorem Gd.ends (h:Gd P m d) {ds:List eE} {ns ss:List gV} {nx:Int} (ht:gU ds≤m) (g1:∀e ∈ ns,P e.f0) (g2:∀e ∈ ss,P e.f0):Gd P m (hU (mN d.f0 d.f1 d.f2 d.f3 ds ns ss nx)):=by
 rcases AM d.f0 d.f1 d.f2 d.f3 ds ns ss nx with ⟨h1,e⟩|⟨_,e⟩
 ·rw[e];exact⟨h1,Nat.le_trans (by rw[DG];exact MZ _ _) ht,g1,g2⟩
 ·rw[e];exact h
theorem Gd.create (h:Gd P m d) (hn:P nm):Gd P m (hU (FN d.f0 d.f1 d.f2 d.f3 nm)):=by
 unfold FN;split
 ·exact h
 ·split
  ·exact h
  ·exact h.ends (by rw[apJ];simpa[gU] using h.tt) (fun e he=>by rcases DD he with rfl|he;exact hn;exact h.g1 e he) h.g2
theorem Gd.append (h:Gd P m d) (b:List Int):Gd P (m+b.length) (hU (Ay d.f0 d.f1 d.f2 d.f3 nm b)):=by
 by_cases hc:gf (b8 d.f0 d.f1 d.f2 d.f3) d.f1 nm=0
 ·obtain⟨_,e,he,hn⟩:=PV hc;rw[ahh h.ok he hn];split
  ·rename_i ht;exact⟨acp h.ok e.f1 b ht,Nat.le_trans (apI h.ok.i1 e.f1 b) (by have:=h.tt;show gU d.f0+b.length≤_;omega),h.g1,h.g2⟩
  ·exact h.more (Nat.le_add_right _ _)
 ·unfold Ay;rw[if_neg hc];exact h.more (Nat.le_add_right _ _)
theorem Gd.sync (h:Gd P m d):Gd P m (hU (BZ d.f0 d.f1 d.f2 d.f3 nm)):=by
 by_cases hc:gf (b8 d.f0 d.f1 d.f2 d.f3) d.f1 nm=0
 ·obtain⟨_,e,he,hn⟩:=PV hc;rw[apx h.ok he hn];exact⟨aoC h.ok e.f1,by show gU (d.f0.map _)≤m;rw[adw _ _ (fun x _=>by unfold sure;split<;>rfl)];exact h.tt,h.g1,h.g2⟩
 ·unfold BZ;rw[if_neg hc];exact h
theorem Gd.apv (h:Gd P m d):Gd P m (hU (DO d.f0 d.f1 d.f2 d.f3)):=by
 obtain⟨e,hk⟩:=apw h.ok;rw[e];exact⟨hk,Nat.le_trans (by show gU (kept _ _ _)≤gU d.f0;rw[DG];exact MZ _ _) h.tt,h.g1,h.g1⟩
theorem Gd.remove (h:Gd P m d):Gd P m (hU (sm d.f0 d.f1 d.f2 d.f3 nm)):=by
 unfold sm;split
 ·exact h.ends h.tt (fun e he=>h.g1 e (Ck he)) h.g2
 ·exact h
theorem Gd.rename (h:Gd P m d) (hn:P nq):Gd P m (hU (rz d.f0 d.f1 d.f2 d.f3 nm nq)):=by
 unfold rz;split
 ·exact h
 ·split
  ·split
   ·exact h
   ·refine h.ends h.tt (fun e he=>?_) h.g2
    rcases DD he with rfl|he
    ·exact hn
    ·exact h.g1 e (Ck (Ck he))
  ·exact h
theorem Gd.ajc (h:Gd P m d) {keep:Int} (hk:0≤keep):Gd P m ⟨(pc (b8 d.f0 d.f1 d.f2 d.f3) d.f0 d.f1 d.f2 d.f3 keep).1,(pc (b8 d.f0 d.f1 d.f2 d.f3) d.f0 d.f1 d.f2 d.f3 keep).2.1,(pc (b8 d.f0 d.f1 d.f2 d.f3) d.f0 d.f1 d.f2 d.f3 keep).2.2.1,(pc (b8 d.f0 d.f1 d.f2 d.f3) d.f0 d.f1 d.f2 d.f3 keep).2.2.2⟩:=by
 rw[QC h.ok hk];refine⟨acq h.ok hk,Nat.le_trans (adx _ _ (fun x hx=>?_)) (Nat.le_trans (MZ _ _) h.tt),h.g2,h.g2⟩;have:=h.ok.i1.2 x (List.mem_filter.1 hx).1;obtain⟨n,_,e⟩:=(KE hk ⟨this.2.2.1,this.2.2.2.1⟩).2.2;rw[e,List.length_take];omega
end
end Go.Proofs.Ytgpkdbnikcghgaa.MPD
