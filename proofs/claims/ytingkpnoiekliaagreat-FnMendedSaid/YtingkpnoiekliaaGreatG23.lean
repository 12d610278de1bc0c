/- Walks and plain laws, put together: no condition of their own. -/
import Derived.Test.YtingkpnoiekliaaGreatMPQ
import Derived.Test.YtingkpnoiekliaaGreatG20
import Derived.Test.YtingkpnoiekliaaGreatG19
section
set_option linter.unusedVariables false
set_option linter.unusedSimpArgs false
namespace Go.Proofs.YtingkpnoiekliaaGreat.MZ
open Go.RowKit Go.Proofs.YtingkpnoiekliaaGreat.MZ Go.Proofs.YtingkpnoiekliaaGreatW.PrintWords Go.Proofs.YtingkpnoiekliaaGreatW.PrintLast Go.Proofs.YtingkpnoiekliaaGreatW.PrintMore
abbrev hP (d:ik):Bool:=bO d.f0 d.f1 d.f2 d.f3
def jB:ByteArray:=⟨#[109,101,110,100]⟩
theorem ON:fe jB=true∧jB.size≤9223372036854775807:=⟨by decide +kernel,by decide +kernel⟩
def eE (d:ik):Prop:=yd d∧Bd d.f0
section
variable {d:ik} {nm tn:ByteArray} {b:List Int} {r:dG}
theorem eE.gd (h:eE d):Gd (fun _=>True) (gr d.f0) d:=⟨h.1,Nat.le_refl _,fun _ _=>trivial,fun _ _=>trivial,h.2⟩
theorem Gd.Bz {P:ByteArray→Prop} {m:Nat} (h:Gd P m d):eE d:=⟨h.ok,h.bb⟩
theorem eE.create (h:eE d) (hr:n4 d.f0 d.f1 d.f2 d.f3 nm=r):eE (bR r):=hr▸(h.gd.create trivial).Bz
theorem eE.append (h:eE d) (hb:bJ b) (hr:kg d.f0 d.f1 d.f2 d.f3 nm b=r):eE (bR r):=hr▸(h.gd.append b hb).Bz
theorem eE.sync (h:eE d) (hr:nJ d.f0 d.f1 d.f2 d.f3 nm=r):eE (bR r):=hr▸(h.gd.sync).Bz
theorem eE.BF (h:eE d) (hr:oX d.f0 d.f1 d.f2 d.f3=r):eE (bR r):=hr▸(h.gd.BF).Bz
theorem eE.rename (h:eE d) (hr:oV d.f0 d.f1 d.f2 d.f3 nm tn=r):eE (bR r):=hr▸(h.gd.rename trivial).Bz
theorem eE.remove (h:eE d) (hr:oU d.f0 d.f1 d.f2 d.f3 nm=r):eE (bR r):=hr▸(h.gd.remove).Bz
def step (r:dG) (f:ik→dG):dG:=if r.2.2.2.2=0 then f (bR r) else r
def xd (d:ik) (nm:ByteArray):dG:=if 0<dN d.f1 nm then oU d.f0 d.f1 d.f2 d.f3 nm else (d.f0,d.f1,d.f2,d.f3,0)
def zw (d:ik) (nm:ByteArray) (b:List Int):dG:=step (step (step (xd d nm) (fun d=>n4 d.f0 d.f1 d.f2 d.f3 nm)) (fun d=>kg d.f0 d.f1 d.f2 d.f3 nm b)) (fun d=>nJ d.f0 d.f1 d.f2 d.f3 nm)
def vy (d:ik) (nm:ByteArray) (b:List Int) (tn:ByteArray):dG:=step (step (zw d nm b) (fun d=>oV d.f0 d.f1 d.f2 d.f3 nm tn)) (fun d=>oX d.f0 d.f1 d.f2 d.f3)
def Hf (d:ik) (r:dG):dG:=if r.2.2.2.2=0 then r else (d.f0,d.f1,d.f2,d.f3,r.2.2.2.2)
def s6 (d:ik) (nm:ByteArray) (b:List Int) (tn:ByteArray):dG:=Hf d (vy d nm b tn)
def sN (d:ik) (nm:ByteArray):dG × List (List Int):=
 if dt (hP d) d.f1 nm=0 then
  (if (iF (jx (hP d) d.f0 d.f1 nm).1).2=((jx (hP d) d.f0 d.f1 nm).1.length:Int) then ((d.f0,d.f1,d.f2,d.f3,0),(iF (jx (hP d) d.f0 d.f1 nm).1).1)
   else (s6 d jB ((jx (hP d) d.f0 d.f1 nm).1.take (iF (jx (hP d) d.f0 d.f1 nm).1).2.toNat) nm,if (s6 d jB ((jx (hP d) d.f0 d.f1 nm).1.take (iF (jx (hP d) d.f0 d.f1 nm).1).2.toNat) nm).2.2.2.2=0 then (iF (jx (hP d) d.f0 d.f1 nm).1).1 else []))
 else ((d.f0,d.f1,d.f2,d.f3,dt (hP d) d.f1 nm),[])
theorem FX (h:eE d) (hr:xd d nm=r):r.2.2.2.2=0∧eE (bR r):=by
 subst hr;unfold xd;split
 ·rename_i hc
  rcases look d.f1 nm with ⟨e,he,hn,_⟩|⟨_,h2,_⟩
  ·have e0:=(YV h.1 he hn).1;exact⟨by rw[e0],h.remove rfl⟩
  ·omega
 ·exact⟨rfl,h⟩
theorem step_pos {f:ik→dG} (h:r.2.2.2.2=0):step r f=f (bR r):=if_pos h
theorem xj {f:ik→dG} (h:¬r.2.2.2.2=0):step r f=r:=if_neg h
theorem eE.step {f:ik→dG} (h:eE (bR r)) (hf:∀d,eE d→eE (bR (f d))):eE (bR (step r f)):=by
 unfold MZ.step;split
 ·exact hf _ h
 ·exact h
theorem YX (h:eE d) (hb:bJ b) (hr:zw d nm b=r):eE (bR r):=by
 subst hr;unfold zw;exact(((FX h rfl).2.step (fun d h=>h.create rfl)).step (fun d h=>h.append hb rfl)).step (fun d h=>h.sync rfl)
theorem Qd (h:eE d) (hb:bJ b) (hr:s6 d nm b tn=r):eE (bR r)∧(¬r.2.2.2.2=0→bR r=d):=by
 subst hr;unfold s6 Hf;split
 ·rename_i hc;refine⟨?_,fun h=>absurd hc h⟩;unfold vy;exact((YX h hb rfl).step (fun d h=>h.rename rfl)).step (fun d h=>h.BF rfl)
 ·exact⟨h,fun _=>rfl⟩
def OP (nm:ByteArray) (b:List Int) (tn:ByteArray) (k:Nat) (d:ik):dG:=if k=0 then n4 d.f0 d.f1 d.f2 d.f3 nm else if k=1 then kg d.f0 d.f1 d.f2 d.f3 nm b else if k=2 then nJ d.f0 d.f1 d.f2 d.f3 nm else if k=3 then oV d.f0 d.f1 d.f2 d.f3 nm tn else oX d.f0 d.f1 d.f2 d.f3
def chain (d:ik) (nm:ByteArray) (b:List Int) (tn:ByteArray):Nat→dG
 |0=>xd d nm
 |k+1=>step (chain d nm b tn k) (OP nm b tn k)
theorem afn:chain d nm b tn 5=vy d nm b tn:=rfl
theorem afp {k:Nat} (h:¬(chain d nm b tn k).2.2.2.2=0):∀m,chain d nm b tn (k+m)=chain d nm b tn k:=by
 intro m
 induction m with
 |zero=>rfl
 |succ m ih=>
  show step (chain d nm b tn (k+m)) _=_;rw[ih,xj h]
theorem afo (h:eE d) (hb:bJ b):∀k,eE (bR (chain d nm b tn k)):=by
 intro k
 induction k with
 |zero=>exact(FX h rfl).2
 |succ k ih=>
  refine eE.step ih (fun d h=>?_);unfold OP
  repeat' split
  ·exact h.create rfl
  ·exact h.append hb rfl
  ·exact h.sync rfl
  ·exact h.rename rfl
  ·exact h.BF rfl
theorem OA (h:yd d) {e:gu} (he:e ∈ d.f1):0<e.f1:=by
 obtain⟨x,hx,e1⟩:=(h.e1.2.1 e he).2;have:=(h.i1.2 x hx).1;omega
theorem JF {L:List (List Int)} (hB:Bd d.f0) (hr:sN d nm=(r,L)) :
 ((hP d=false∨hP d=true∧fe nm=false)∧dt (hP d) d.f1 nm=1∧r=(d.f0,d.f1,d.f2,d.f3,1)∧L=[]) ∨
 ((hP d=true∧fe nm=true∧dN d.f1 nm=0)∧dt (hP d) d.f1 nm=2∧r=(d.f0,d.f1,d.f2,d.f3,2)∧L=[]) ∨
 ((hP d=true∧fe nm=true∧¬dN d.f1 nm=0)∧dt (hP d) d.f1 nm=0∧∃b n,jx (hP d) d.f0 d.f1 nm=(b,true)∧bJ b∧b.length≤1048576∧n≤b.length∧(∃l,iF b=(l,(n:Int)) ∧
  ((n=b.length∧r=(d.f0,d.f1,d.f2,d.f3,0)∧L=l)∨(n≠b.length∧s6 d jB (b.take n) nm=r∧((r.2.2.2.2=0∧L=l)∨(¬r.2.2.2.2=0∧L=[])))))):=by
 by_cases hk:hP d=true
 ·by_cases hn:fe nm=true
  ·have ho:=qn.1 hk;have hc:dt (hP d) d.f1 nm=if nameAt d.f1 nm<0 then 2 else 0:=by unfold dt;rw[hk,hn,if_pos (by decide)]
   rcases look d.f1 nm with ⟨e,he,h1,h2,h3,h4⟩|⟨h1,h2,h3⟩
   ·refine Or.inr (Or.inr ⟨⟨hk,hn,by have:=OA ho he;omega⟩,by rw[hc,if_neg (by omega)],?_⟩);obtain⟨x,hx,hxe⟩:=(ho.e1.2.1 e he).2;have hb:=MF ho he h1 hx hxe;have hbi:=hB x hx;have hbl:=ho.small.2 x hx;have hi:=J0 hbi (x.f1.length+1) 0 (by omega) (by omega);obtain⟨n,Je⟩:=Int.eq_ofNat_of_zero_le (show 0≤(iF x.f1).2 from hi.1);have hnl:n≤x.f1.length:=by have:=hi.2.1;unfold iF at Je;omega
    unfold sN at hr;rw[show dt (hP d) d.f1 nm=0 by rw[hc,if_neg (by omega)],if_pos rfl,hb,Je]at hr;refine⟨x.f1,n,hb,hbi,hbl,hnl,(iF x.f1).1,by rw[←Je],?_⟩;dsimp only at hr;by_cases hq:(n:Int)=(x.f1.length:Int)
    ·rw[if_pos hq]at hr;injection hr with q1 q2
     exact Or.inl ⟨by omega,q1.symm,q2.symm⟩
    ·rw[if_neg hq]at hr;injection hr with q1 q2
     rw[Int.toNat_natCast]at q1 q2;rw[q1]at q2;refine Or.inr ⟨by omega,q1,?_⟩;by_cases hz:r.2.2.2.2=0
     ·rw[if_pos hz]at q2;exact Or.inl ⟨hz,q2.symm⟩
     ·rw[if_neg hz]at q2;exact Or.inr ⟨hz,q2.symm⟩
   ·have jn:dt (hP d) d.f1 nm=2:=by rw[hc,if_pos (by omega)]
    unfold sN at hr;rw[jn,if_neg (by decide)]at hr;injection hr with q1 q2
    exact Or.inr (Or.inl ⟨⟨hk,hn,h2⟩,jn,q1.symm,q2.symm⟩)
  ·have hc:dt (hP d) d.f1 nm=1:=by unfold dt;rw[hk,Bool.eq_false_iff.2 hn,if_neg (by decide)]
   unfold sN at hr;rw[hc,if_neg (by decide)]at hr;injection hr with q1 q2
   exact Or.inl ⟨Or.inr ⟨hk,Bool.eq_false_iff.2 hn⟩,hc,q1.symm,q2.symm⟩
 ·have hc:dt (hP d) d.f1 nm=1:=by unfold dt;rw[Bool.eq_false_iff.2 hk,if_neg (by simp)]
  unfold sN at hr;rw[hc,if_neg (by decide)]at hr;injection hr with q1 q2
  exact Or.inl ⟨Or.inl (Bool.eq_false_iff.2 hk),hc,q1.symm,q2.symm⟩
end
end Go.Proofs.YtingkpnoiekliaaGreat.MZ
end
section
set_option linter.unusedVariables false
set_option linter.unusedSimpArgs false
namespace Go.Proofs.YtingkpnoiekliaaGreat.MZ
open Go.RowKit Go.Proofs.YtingkpnoiekliaaGreat.MZ Go.Proofs.YtingkpnoiekliaaGreatW.PrintWords Go.Proofs.YtingkpnoiekliaaGreatW.PrintLast Go.Proofs.YtingkpnoiekliaaGreatW.PrintMore
structure Has (nm:ByteArray) (bd:List Int) (d:ik):Prop where
 ok:yd d
 ex:∃e ∈ d.f1,e.f0=nm∧∃x ∈ d.f0,x.f0=e.f1∧x.f1=bd
section
variable {nm nq:ByteArray} {bd b:List Int} {d:ik} {r:dG}
theorem Has.bytes (h:Has nm bd d):jx (hP d) d.f0 d.f1 nm=(bd,true):=by
 obtain⟨e,he,hn,x,hx,e1,e2⟩:=h.ex;rw[←e2];exact MF h.ok he hn hx e1
theorem ahi (ho:yd d) (h:jx (hP d) d.f0 d.f1 nm=(bd,true)):Has nm bd d:=by
 rcases look d.f1 nm with ⟨e,he,hn,_⟩|⟨_,_,h3⟩
 ·obtain⟨x,hx,hxe⟩:=(ho.e1.2.1 e he).2;have:=(MF ho he hn hx hxe).symm.trans h;injection this with this _
  exact⟨ho,e,he,hn,x,hx,hxe,this⟩
 ·rw[aeN h3]at h;injection h with _ h
  exact absurd h (by decide)
theorem ahh (h:yd d) (hn:fe nm=true) (h0:∀e ∈ d.f1,e.f0≠nm) (hr:n4 d.f0 d.f1 d.f2 d.f3 nm=r) (hc:r.2.2.2.2=0):Has nm [] (bR r):=by
 subst hr;rw[afy h hn h0]at hc ⊢
 rcases yx d.f0 d.f1 d.f2 d.f3 (d.f0++[(⟨d.f3,[],0⟩:dA)]) (iW (⟨nm,d.f3⟩:gu) d.f1) d.f2 (d.f3+1) with ⟨hk,e⟩|⟨_,e⟩
 ·rw[e];have hm:(⟨nm,d.f3⟩:gu) ∈ iW (⟨nm,d.f3⟩:gu) d.f1:=(Bs _ _).mem_iff.2 (by simp);refine⟨hk,⟨nm,d.f3⟩,hm,rfl,⟨d.f3,[],0⟩,?_,rfl,rfl⟩;show _ ∈ kept _ _ _;rw[wW];refine List.mem_filter.2 ⟨by simp,?_⟩;rw[Bool.or_eq_true,qu];exact Or.inl ⟨_,hm,rfl⟩
 ·rw[e]at hc;exact absurd (show (4:Int)=0 from hc) (by decide)
theorem Vq (h:Has nm bd d) (hr:kg d.f0 d.f1 d.f2 d.f3 nm b=r):(r.2.2.2.2=0∧Has nm (bd++b) (bR r))∨(¬r.2.2.2.2=0∧bR r=d):=by
 subst hr;obtain⟨e,he,hn,x,hx,e1,e2⟩:=h.ex;rw[TG h.ok he hn];split
 ·rename_i ht;refine Or.inl ⟨rfl,OQ h.ok e.f1 b ht,e,he,hn,grow e.f1 b x,List.mem_map.2 ⟨x,hx,rfl⟩,?_⟩;unfold grow;rw[if_pos e1];exact⟨e1,by rw[←e2]⟩
 ·exact Or.inr ⟨by show ¬(4:Int)=0;decide,rfl⟩
theorem ahl (h:Has nm bd d) (hr:nJ d.f0 d.f1 d.f2 d.f3 nm=r):Has nm bd (bR r):=by
 subst hr;obtain⟨e,he,hn,x,hx,e1,e2⟩:=h.ex;rw[Zp h.ok he hn];refine⟨YA h.ok e.f1,e,he,hn,sure e.f1 x,List.mem_map.2 ⟨x,hx,rfl⟩,?_⟩;unfold sure;rw[if_pos e1];exact⟨e1,e2⟩
theorem ahm (h:Has nm bd d) (hr:oX d.f0 d.f1 d.f2 d.f3=r):Has nm bd (bR r):=by
 subst hr;obtain⟨e,he,hn,x,hx,e1,e2⟩:=h.ex;obtain⟨e3,hk⟩:=Zo h.ok;rw[e3];refine⟨hk,e,he,hn,x,?_,e1,e2⟩;show x ∈ kept _ _ _;rw[wW];refine List.mem_filter.2 ⟨hx,?_⟩;rw[Bool.or_self,qu];exact⟨e,he,e1.symm⟩
theorem ahj (h:Has nm bd d) (hr:oV d.f0 d.f1 d.f2 d.f3 nm nq=r) (hc:r.2.2.2.2=0):Has nq bd (bR r):=by
 subst hr;obtain⟨e,he,hn,x,hx,e1,e2⟩:=h.ex;revert hc;unfold oV;split
 ·exact fun h=>absurd (show (1:Int)=0 from h) (by decide)
 ·split
  ·split
   ·rename_i hq;exact fun _=>⟨h.ok,e,he,hn.trans (Qx hq),x,hx,e1,e2⟩
   ·rcases yx d.f0 d.f1 d.f2 d.f3 d.f0 (renamed d.f1 nm nq) d.f2 d.f3 with ⟨hk,e3⟩|⟨_,e3⟩<;>rw[e3]
    ·intro _;have hm:(⟨nq,dN d.f1 nm⟩:gu) ∈ renamed d.f1 nm nq:=(Bs _ _).mem_iff.2 (by simp);have hi:=(FC h.ok.e1 he hn).1;refine⟨hk,_,hm,rfl,x,?_,e1.trans hi.symm,e2⟩;show x ∈ kept _ _ _;rw[wW];refine List.mem_filter.2 ⟨hx,?_⟩;rw[Bool.or_eq_true,qu];exact Or.inl ⟨_,hm,hi.trans e1.symm⟩
    ·exact fun h=>absurd (show (4:Int)=0 from h) (by decide)
  ·rename_i hc;exact fun h=>absurd h hc
theorem alT (h:eE d) (hr:xd d nm=r):∀e ∈ (bR r).f1,e.f0≠nm:=by
 subst hr;unfold xd
 rcases look d.f1 nm with ⟨e,he,hn,hi,_⟩|⟨_,h2,h3⟩
 ·rw[if_pos (by have:=OA h.1 he;omega),(YV h.1 he hn).1];exact fun e he hc=>aam _ _ _ he (congrArg ByteArray.toList hc)
 ·rw[if_neg (by omega)];exact h3
theorem ahk (h:eE d) (hb:bJ b) (hr:s6 d jB b nm=r) (hc:r.2.2.2.2=0):Has nm b (bR r):=by
 have hs:vy d jB b nm=r∧r.2.2.2.2=0:=by
  unfold s6 Hf at hr;by_cases hz:(vy d jB b nm).2.2.2.2=0
  ·rw[if_pos hz]at hr;exact⟨hr,hc⟩
  ·rw[if_neg hz]at hr;subst hr;exact absurd hc hz
 obtain⟨hs,_⟩:=hs
 have nz:∀ {r':dG} {f:ik→dG} {s:dG},step r' f=s→s.2.2.2.2=0→r'.2.2.2.2=0∧f (bR r')=s:=fun {r' f s} h1 h2=>by
  by_cases hz:r'.2.2.2.2=0
  ·exact⟨hz,(step_pos hz).symm.trans h1⟩
  ·rw[xj hz]at h1;rw[h1]at hz;exact absurd h2 hz
 unfold vy zw at hs;obtain⟨z4,h5⟩:=nz hs hc;obtain⟨z3,h4⟩:=nz rfl z4;obtain⟨z2,h3⟩:=nz rfl z3;obtain⟨z1,h2⟩:=nz rfl z2;obtain⟨z0,h1⟩:=nz rfl z1;obtain⟨_,o0⟩:=FX (nm:=jB) h rfl;have a1:=ahh o0.1 ON.1 (alT h rfl) h1 z1
 rcases Vq a1 h2 with ⟨_,a2⟩|⟨hz,_⟩
 ·rw[List.nil_append]at a2;exact ahm (ahj (ahl a2 h3) h4 z4) h5
 ·exact absurd z2 hz
theorem aly {L:List (List Int)} (hB:Bd d.f0) (hr:sN d nm=(r,L)) (hc:r.2.2.2.2=0):∃(b:List Int) (n:Nat),jx (hP d) d.f0 d.f1 nm=(b,true)∧bJ b∧b.length≤1048576∧n≤b.length∧iF b=(L,(n:Int))∧Has nm (b.take n) (bR r)∧eE (bR r):=by
 rcases JF hB hr with ⟨_,_,rfl,_⟩|⟨_,_,rfl,_⟩|⟨⟨hk,hno,_⟩,_,b,n,hb,h8,hl,hn,l,hrec,h⟩
 ·exact absurd (show (1:Int)=0 from hc) (by decide)
 ·exact absurd (show (2:Int)=0 from hc) (by decide)
 ·have ho:eE d:=⟨qn.1 hk,hB⟩
  rcases h with ⟨rfl,rfl,rfl⟩|⟨_,hs,h⟩
  ·exact⟨b,b.length,hb,h8,hl,hn,hrec,ahi (d:=bR (d.f0,d.f1,d.f2,d.f3,0)) ho.1 (by rw[List.take_length];exact hb),ho⟩
  ·rcases h with ⟨_,rfl⟩|⟨hz,_⟩
   ·exact⟨b,n,hb,h8,hl,hn,hrec,ahk ho (h8.take n) hs hc,(Qd ho (h8.take n) hs).1⟩
   ·exact absurd hc hz
theorem alx {L:List (List Int)} (hB:Bd d.f0) (hr:sN d nm=(r,L)) (hc:¬r.2.2.2.2=0):L=[]:=by
 rcases JF hB hr with ⟨_,_,_,h⟩|⟨_,_,_,h⟩|⟨_,_,b,n,_,_,_,_,l,_,h⟩
 ·exact h
 ·exact h
 ·rcases h with ⟨_,rfl,_⟩|⟨_,_,h⟩
  ·exact absurd (show (0:Int)=0 from rfl) hc
  ·rcases h with ⟨hz,_⟩|⟨_,h⟩
   ·exact absurd hz hc
   ·exact h
theorem alw {n:Nat} {L:List (List Int)} (h:Has nm b d) (ho:eE d) (h8:bJ b) (hrec:iF b=(L,(n:Int))) (hn:b.length=n) (hr:kg d.f0 d.f1 d.f2 d.f3 nm (gi [5])=r):eE (bR r)∧∃(y:List Int) (L2:List (List Int)) (n2:Int),jx (hP (bR r)) (bR r).f0 (bR r).f1 nm=(y,true)∧bJ y∧y.length≤1048576∧iF y=(L2,n2)∧(r.2.2.2.2=0→L2.length=L.length+1):=by
 have hf:bJ (gi [5]):=UJ (by decide) (by simp);have o2:=ho.append hf hr;refine⟨o2,?_⟩
 rcases Vq h hr with ⟨hz,h2⟩|⟨hz,h2⟩
 ·have hb:=h8.append hf
  have hl:(b++gi [5]).length≤1048576:=by
   have:=TQ (hP (bR r)) (bR r).f0 (bR r).f1 nm h2.ok.small.2;rw[h2.bytes]at this;exact this
  have e:=alZ (b:=b) (l:=[5]) (by decide) (by simp) h8 hb (by rw[hrec,hn]);rw[hrec]at e;exact⟨_,_,_,h2.bytes,hb,hl,e,fun _=>by simp⟩
 ·have hl:b.length≤1048576:=by
   have:=TQ (hP d) d.f0 d.f1 nm h.ok.small.2;rw[h.bytes]at this;exact this
  exact⟨b,L,n,by rw[h2];exact h.bytes,h8,hl,hrec,fun h=>absurd h hz⟩
end
end Go.Proofs.YtingkpnoiekliaaGreat.MZ
end
section
namespace Go.Proofs.YtingkpnoiekliaaGreat.MZ
open Go.RowKit Go.Proofs.YtingkpnoiekliaaGreatW.PrintWords Go.Proofs.YtingkpnoiekliaaGreatW.PrintLast Go.Proofs.YtingkpnoiekliaaGreatW.PrintMore Go.Proofs.YtingkpnoiekliaaGreat.MWords Go.Proofs.YtingkpnoiekliaaGreat.MZ
set_option linter.unusedVariables false
set_option linter.unusedSimpArgs false
theorem agG {l:List Int} (hl:l.length<128):(gi l).length=l.length+5:=by rw[Dz hl];unfold pz;simp
section
variable {w0 w:World} {g:Nat}
theorem Dl (n:Int) (hC:jS w0 w g) (hB:Below w0.heap.size w0 w):Calls Tryz.prog 24 #[.pointer (some ⟨g,0,none⟩),.int .i64 n] w (fun e w'=>∃v,e = .returned (.bool v)∧Cm w0 w w' g):=by
 obtain⟨b,i,h,hI,hl,hi⟩:=hC;obtain⟨v,j,y,e,h0,h1,h2,hj⟩:=FP b i h n hl hi;exact(vw.calls g b i h n (v == 0) j y w0 w hI hB (by unfold vw.f;rw[e];rfl)).mono (fun e w' ⟨he,hI',hB',hk⟩=>⟨v == 0,he,⟨b,j,y,hI',hl,hj⟩,hB',hk⟩)
end
section
variable {w:World} {cs:Array Value} {d:Dk} {nm:ByteArray} {b:List Int} {A:Option Addr} {c:Nat}
theorem al7 (hd:cH cs d w) (hs:Small d.f0 d.f1 d.f2) (hn:nm.size≤9223372036854775807) (hl:∀x ∈ d.f0,x.f1.length≤1048576) (hi:bJ b) (hb:b.length≤100) (gb:Kd.C (Kd.int .u8) w A b.length b) (lb:b.length≤c):Calls Tryz.prog 60 #[.agg cs,.string nm,.slice A b.length c] w (Pe w (kg d.f0 d.f1 d.f2 d.f3 nm (gi b))):=by
 obtain⟨K,hk⟩:=amu d.f0 d.f1 d.f2 d.f3 nm b hn hs hl hi hb;obtain⟨A0,c0,A1,c1,A2,c2,rfl,U,g0,l1,g1,l2,g2⟩:=hd.open;exact(pP.calls K _ _ _ _ _ _ _ _ _ _ _ _ _ _ _ _ _ _ _ w g0 U g1 l1 g2 l2 gb lb (hk K (Nat.le_refl _))).mono (fun e w' ⟨v0,v1,v2,he,h0,h1,h2,hb⟩=>⟨_,he,Fr.rf ⟨v0,v1,v2,rfl,h0,h1,h2⟩ hb⟩)
theorem ae6 {r:dG} (hr:kg d.f0 d.f1 d.f2 d.f3 nm (gi b)=r) (hd:cH cs d w) (hs:Small d.f0 d.f1 d.f2) (hn:nm.size≤9223372036854775807) (hl:∀x ∈ d.f0,x.f1.length≤1048576) (hi:bJ b) (hb:b.length≤100) (gb:Kd.C (Kd.int .u8) w A b.length b) (lb:b.length≤c):Calls Tryz.prog 13 #[.agg cs,.string nm,.slice A b.length c] w (Pd w r):=by
 subst hr;obtain⟨K,hk⟩:=akJ d.f0 d.f1 d.f2 d.f3 nm b hn hs hl hi hb;obtain⟨A0,c0,A1,c1,A2,c2,rfl,U,g0,l1,g1,l2,g2⟩:=hd.open;exact(pF.calls K _ _ _ _ _ _ _ _ _ _ _ _ _ _ _ _ _ _ _ w g0 U g1 l1 g2 l2 gb lb (hk K (Nat.le_refl _))).mono (fun e w' ⟨v0,v1,v2,he,h0,h1,h2,hb⟩=>⟨_,he,Fs.rz (wE h0 h1 h2) hb⟩)
end
set_option maxHeartbeats 8000000 in
set_option maxRecDepth 100000 in
theorem ahc {w0 w:World} {g:Nat} (hC:jS w0 w g) (hB:Below w0.heap.size w0 w):Calls Tryz.prog 23 #[.pointer (some ⟨g,0,none⟩)] w (fun e w'=>∃cs d nm,e = .returned (.tuple #[.agg cs,.string nm])∧(Gd dn 200 d∧nm ∈ tL)∧Foot (Fd w.heap.size cs d) w' (fun k=>w.heap.size≤k)∧Cm w0 w w' g):=by
 have HS:=Sd.start hC hB;clear hC hB;go_enter Tryz.func23,Tryz.ntmps23;go_wp2_with (first|((with_reducible refine aM (N:=2) rfl ?_);refine bg 2 pK 27 ?_;intro g2 hg w1 hx hb;replace HS:=HS.box hg hx hb rfl;clear hb hx hg)|((with_reducible refine aM (N:=4) rfl ?_);refine bg 4 pK 27 ?_;intro g4 hg w1 hx hb;replace HS:=HS.box hg hx hb rfl;clear hb hx hg)|((with_reducible refine aH (f:=56) rfl ?_);refine bz Tryz.func56 (U7 8 HS.cu HS.st.be (by decide)) ?_;rintro e w1 ⟨cs,d,rfl,hG,hF,hc⟩;refine⟨_,rfl,?_⟩;replace HS:=(HS.AF hc hF).imp (fun _ h=>Fr.low h.2 HS.kb.1);clear hc hF;replace hG:=J hG)|((with_reducible refine dM rfl ?_);refine pT 0 HS HS.q.bM ?_;intro w4 HT;replace HS:=HT;clear HT;simp only[List.set]at HS)|((with_reducible refine aH (f:=57) rfl ?_);refine bz Tryz.func57 (MW HS.cu HS.st.be) ?_;rintro e w1 ⟨nm,rfl,hnm,hc⟩;refine⟨_,rfl,?_⟩;replace HS:=HS.draw hc;clear hc)|(refine br 0 HS.st ?_)|((with_reducible refine aH (f:=58) rfl ?_);refine bz Tryz.func58 (P1 HS.q.bM hG.1.ok.small.1 (qV hnm)) ?_;rintro e w1 ⟨c2,rfl,hR⟩;refine⟨_,rfl,?_⟩;replace HS:=(HS.call hR.2 hR.1).imp (fun _ h=>Fr.low h.2 HS.kb.1);clear hR;replace hG:=J (hG.1.create hnm))|((with_reducible refine aH (f:=59) rfl ?_);refine bz Tryz.func59 (yw 5 HS.cu HS.st.be) ?_;rintro e w1 ⟨x,rfl,hx,hc⟩;refine⟨_,rfl,?_⟩;replace HS:=HS.draw hc;clear hc));obtain⟨N,rfl⟩:=Int.eq_ofNat_of_zero_le hx.1;have hN:N≤4:=by have:=hx.2.1 (by decide);omega
 clear hx;replace hG:=J (hG.1.more (m':=72) (by decide));go_loopg [6] N (fun kq v6 w'=>∃(x6:Int) (cs:Array Value) (d:Dk),v6 = .int .i64 x6∧Aside0 (x6=(kq:Int)∧kq≤N)∧Aside0 (Gd dn (72+14*(N-kq)) d)∧Sd w0 w g [(g4,cs),(g2,pK)] (Fd w.heap.size cs d) w')
 case atStart=>exact⟨_,_,_,rfl,⟨rfl,Nat.le_refl _⟩,⟨hG.1.more (Nat.le_add_right _ _)⟩,HS⟩
 case round=>
  clear HS hG;obtain⟨x6,cs,d,rfl,hk,hG,HS⟩:=hrel;cases gk with
  |zero=>
   have hz:decide (0<x6)=false:=decide_eq_false (by have:=hk.1.1;omega);replace hG:=J (hG.1.more (m':=150) (by have:=hk.1;omega));clear hk;go_wp2_with (first|((with_reducible refine aH (f:=24) rfl ?_);refine bz Tryz.func24 (Dl 2 HS.cu HS.st.be) ?_;rintro e w1 ⟨v,rfl,hc⟩;refine⟨_,rfl,?_⟩;replace HS:=HS.draw hc;clear hc;cases v)|((with_reducible refine aH (f:=24) rfl ?_);refine bz Tryz.func24 (Dl 4 HS.cu HS.st.be) ?_;rintro e w1 ⟨v,rfl,hc⟩;refine⟨_,rfl,?_⟩;replace HS:=HS.draw hc;clear hc;cases v)|(refine br 0 HS.st ?_)|((with_reducible refine aH (f:=63) rfl ?_);refine bz Tryz.func63 (P5 HS.q.bM hG.1.ok.small.1) ?_;rintro e w1 ⟨c2,rfl,hR⟩;refine⟨_,rfl,?_⟩;replace HS:=(HS.call hR.2 hR.1).imp (fun _ h=>Fr.low h.2 HS.kb.1);clear hR;replace hG:=J (hG.1.BF))|((with_reducible refine dM rfl ?_);(first|refine pT 0 HS HS.q.bM ?_|refine pT 1 HS HS.q.bM ?_);intro w4 HT;replace HS:=HT;clear HT;simp only[List.set]at HS))
   all_goals (first|(refine ez (n:=5) (S:=fun W=>W.heap[g4]? = some (.cells c2 27 (0,0))) (ds:=[4]) (mb 0 5) (by kernel_rfl) rfl rfl (HS.st.bx _ (.head _)).2.2 (fun hh=>?_);replace HS:=HS.drew;refine rP 1 (mr [0,1,1,3]) ?_;refine rL 0 (mb 2 3) hh (fun _ h=>h) (HS.st.bx _ (.head _)).2.1 ?_;refine rC 2 (mb 3 2) Tryz.func59 (yw 12 HS.cu HS.st.be) ?_;rintro e w6 ⟨x,rfl,hx,hm⟩;replace HS:=HS.draw hm;refine⟨_,rfl,(HS.st.bx _ (.head _)).2.2,fun hh=>rN ?_⟩;refine rC 3 (mb 4 1) Tryz.func64 (Y5 (keep:=x) HS.q.bM hG.1.ok.small.1 hG.1.ok.small.2 (by have:=hx.2.1 (by decide);omega)) ?_;rintro e w7 ⟨c3,rfl,hR⟩;replace HS:=(HS.call hR.2 hR.1).imp (fun _ h=>Fr.low h.2 HS.kb.1);replace hG:=J (hG.1.UG hx.1);clear hx;refine⟨_,rfl,(HS.st.bx _ (.head _)).2.2,fun hh=>rN ?_⟩;refine rS 4 (mb 5 0) (HS.st.bx _ (.head _)).2.2 (HS.st.bx _ (.head _)).2.1 HS.q.bM ?_;replace HS:=HS.set 0 rfl HS.q.size;simp only[List.set]at HS;refine eM (by kernel_rfl) ?_)|skip)
   all_goals (try (go_wp2_with (first|((with_reducible refine aH (f:=24) rfl ?_);refine bz Tryz.func24 (Dl 4 HS.cu HS.st.be) ?_;rintro e w1 ⟨v,rfl,hc⟩;refine⟨_,rfl,?_⟩;replace HS:=HS.draw hc;clear hc;cases v)|(refine br 0 HS.st ?_)|((with_reducible refine dM rfl ?_);refine pT 1 HS HS.q.bM ?_;intro w4 HT;replace HS:=HT;clear HT;simp only[List.set]at HS))))
   all_goals (first|(refine ez (n:=9) (S:=fun W=>W.heap[g4]? = some (.cells cs 27 (0,0))) (ds:=[8]) (mb 0 9) (by kernel_rfl) rfl rfl (HS.st.bx _ (.head _)).2.2 (fun hh=>?_);replace HS:=HS.drew;refine rP 1 (mr [0,1,1,7]) ?_;refine rP 2 (mr [0,1,2,6]) ?_;refine rL 0 (mb 3 6) hh (fun _ h=>h) (HS.st.bx _ (.head _)).2.1 ?_;refine rC 3 (mb 4 5) Tryz.func61 (HJ HS.cu HS.st.be) ?_;rintro e w6 ⟨A,c,l,rfl,hl,hc,hF,hm⟩;replace HS:=HS.AF hm hF;refine⟨_,rfl,(HS.st.bx _ (.head _)).2.2,fun hh=>rN ?_⟩;refine rC 4 (mb 5 4) Tryz.func65 (J4 HS.q.1.bM hG.1.ok.small.1 (qV hnm) hG.1.ok.small.2 (Nat.le_trans hl.2 (by decide)) HS.q.2 hc) ?_;rintro e w7 ⟨c2,rfl,hR⟩;replace HS:=(HS.call hR.2 hR.1).imp (fun _ h=>Fr.low h.2 HS.kb.1);replace hG:=J ((hG.1.append (nm:=nm) l hl.1).more (m':=200) (by have:=hl.2;omega));refine⟨_,rfl,(HS.st.bx _ (.head _)).2.2,fun hh=>rN ?_⟩;refine rP 5 (mb 6 3) ?_;refine rP 6 (mb 7 2) ?_;refine rP 7 (mb 8 1) ?_;refine rS 8 (mb 9 0) (HS.st.bx _ (.head _)).2.2 (HS.st.bx _ (.head _)).2.1 HS.q.bM ?_;replace HS:=HS.set 0 rfl HS.q.size;simp only[List.set]at HS;refine eM (by kernel_rfl) ?_)|(refine ez (n:=9) (S:=fun W=>W.heap[g4]? = some (.cells c3 27 (0,0))) (ds:=[8]) (mb 0 9) (by kernel_rfl) rfl rfl (HS.st.bx _ (.head _)).2.2 (fun hh=>?_);replace HS:=HS.drew;refine rP 1 (mr [0,1,1,7]) ?_;refine rP 2 (mr [0,1,2,6]) ?_;refine rL 0 (mb 3 6) hh (fun _ h=>h) (HS.st.bx _ (.head _)).2.1 ?_;refine rC 3 (mb 4 5) Tryz.func61 (HJ HS.cu HS.st.be) ?_;rintro e w6 ⟨A,c,l,rfl,hl,hc,hF,hm⟩;replace HS:=HS.AF hm hF;refine⟨_,rfl,(HS.st.bx _ (.head _)).2.2,fun hh=>rN ?_⟩;refine rC 4 (mb 5 4) Tryz.func65 (J4 HS.q.1.bM hG.1.ok.small.1 (qV hnm) hG.1.ok.small.2 (Nat.le_trans hl.2 (by decide)) HS.q.2 hc) ?_;rintro e w7 ⟨c2,rfl,hR⟩;replace HS:=(HS.call hR.2 hR.1).imp (fun _ h=>Fr.low h.2 HS.kb.1);replace hG:=J ((hG.1.append (nm:=nm) l hl.1).more (m':=200) (by have:=hl.2;omega));refine⟨_,rfl,(HS.st.bx _ (.head _)).2.2,fun hh=>rN ?_⟩;refine rP 5 (mb 6 3) ?_;refine rP 6 (mb 7 2) ?_;refine rP 7 (mb 8 1) ?_;refine rS 8 (mb 9 0) (HS.st.bx _ (.head _)).2.2 (HS.st.bx _ (.head _)).2.1 HS.q.bM ?_;replace HS:=HS.set 0 rfl HS.q.size;simp only[List.set]at HS;refine eM (by kernel_rfl) ?_)|(replace hG:=J (hG.1.more (m':=200) (by decide))))
   all_goals (try (go_wp2_with (first|(refine br 0 HS.st ?_)|((with_reducible refine dM rfl ?_);refine pT 1 HS HS.q.bM ?_;intro w4 HT;replace HS:=HT;clear HT;simp only[List.set]at HS))))
   all_goals exact bodyPost_ret (gT rfl _ _ g2 27 _ (0,0) _ rfl (HS.st.bx _ (.tail _ (.head _))).2.2 Tryz.underlying27 rfl (by rw[Tryz.fZ,HS.q.size])) rfl ⟨_,_,nm,rfl,⟨hG.1,hnm⟩,HS.st.ft.mono (fun k hk=>by simpa using hk.1),HS.cu,HS.st.be,HS.kb⟩
  |succ k1=>
   have hz:decide (0<x6)=true:=decide_eq_true (by have:=hk.1.1;omega);go_wp2;refine ez (n:=9) (S:=fun W=>W.heap[g4]? = some (.cells cs 27 (0,0))) (ds:=[8]) (mb 0 9) (by kernel_rfl) rfl rfl (HS.st.bx _ (.head _)).2.2 (fun hh=>?_);replace HS:=HS.drew;refine rP 1 (mr [0,1,1,7]) ?_;refine rP 2 (mr [0,1,2,6]) ?_;refine rL 0 (mb 3 6) hh (fun _ h=>h) (HS.st.bx _ (.head _)).2.1 ?_;refine rC 3 (mb 4 5) Tryz.func61 (HJ HS.cu HS.st.be) ?_;rintro e w6 ⟨A,c,l,rfl,hl,hc,hF,hm⟩;replace HS:=HS.AF hm hF;refine⟨_,rfl,(HS.st.bx _ (.head _)).2.2,fun hh=>rN ?_⟩;refine rC 4 (mb 5 4) Tryz.func60 (al7 HS.q.1.bM hG.1.ok.small.1 (qV hnm) hG.1.ok.small.2 hl.1 (Nat.le_trans hl.2 (by decide)) HS.q.2 hc) ?_;rintro e w7 ⟨c2,rfl,hR⟩;replace HS:=(HS.call hR.2 hR.1).imp (fun _ h=>Fr.low h.2 HS.kb.1);replace hG:=J ((hG.1.append (nm:=nm) (gi l) (UJ (by omega) hl.1.mem)).more (m':=72+14*(N-k1)) (by have:=hk.1;have:=agG (l:=l) (by omega);have:=hl.2;omega));refine⟨_,rfl,(HS.st.bx _ (.head _)).2.2,fun hh=>rN ?_⟩;refine rP 5 (mb 6 3) ?_;refine rP 6 (mb 7 2) ?_;refine rP 7 (mb 8 1) ?_;refine rS 8 (mb 9 0) (HS.st.bx _ (.head _)).2.2 (HS.st.bx _ (.head _)).2.1 HS.q.bM ?_;replace HS:=HS.set 0 rfl HS.q.size;simp only[List.set]at HS;refine eM (by kernel_rfl) ?_;go_wp2_with (first|((with_reducible refine aH (f:=24) rfl ?_);refine bz Tryz.func24 (Dl 3 HS.cu HS.st.be) ?_;rintro e w1 ⟨v,rfl,hc⟩;refine⟨_,rfl,?_⟩;replace HS:=HS.draw hc;clear hc;cases v)|(refine br 0 HS.st ?_)|((with_reducible refine aH (f:=62) rfl ?_);refine bz Tryz.func62 (P4 HS.q.bM hG.1.ok.small.1 (qV hnm)) ?_;rintro e w1 ⟨c2,rfl,hR⟩;refine⟨_,rfl,?_⟩;replace HS:=(HS.call hR.2 hR.1).imp (fun _ h=>Fr.low h.2 HS.kb.1);clear hR;replace hG:=J (hG.1.sync (nm:=nm)))|((with_reducible refine dM rfl ?_);refine pT 0 HS HS.q.bM ?_;intro w4 HT;replace HS:=HT;clear HT;simp only[List.set]at HS))
   all_goals
    go_roundg k1
    case measure=>omega
    case rel=>exact⟨wrap64 (x6-1),_,_,mE,⟨by unfold wrap64;have:=hk.1;omega,by have:=hk.1;omega⟩,⟨hG.1.more (by have:=hk.1;omega)⟩,HS⟩
theorem jS.ne {w0 w:World} {g k:Nat} {cs:Array Value} (hC:jS w0 w g) (h2:w.heap[k]? = some (.cells cs 27 (0,0))):k≠g:=fun e=>by
 obtain⟨l,i,x,⟨A,c,h1,_⟩,_⟩:=hC;rw[e,h1]at h2;injection h2 with h2
 injection h2 with _ h2
 exact absurd h2 (by decide)
theorem St.drawn {w0 w w1:World} {X:Nat→Prop} {bs:List (Nat × Array Value)} {Q:World→Prop} {g:Nat} (h:St w0 X bs Q w) (hC:jS w0 w g) (hc:Cm w0 w w1 g) (hx:X g):St w0 X bs Q w1:=
 h.keep hc.2.1 hc.2.2 hx (fun b hm=>hC.ne (h.bx b hm).2.2)
section
variable {ops:Array Oper} {rest:List Oper} {o:Oper} {a:Act} {K:Exit→Act→World→Prop} {w0 w:World} {X:Nat→Prop} {bs:List (Nat × Array Value)} {Q:World→Prop} {g gc:Nat} {cs cs':Array Value} {d:Dk}
theorem uSc (i:Nat) (HS:St w0 X bs Q w) (hC:jS w0 w gc) (hd:cH cs' d w) {p:Tmp} {x:Operand}
 (h:∀w1,St w0 X (bs.set i (g,cs')) Q w1→jS w0 w1 gc→wpList Tryz.prog ops K rest a w1)
 (hi:bs[i]? = some (g,cs):=by rfl) (ho:o.op = .store 27 (.tmp p) x:=by rfl) (he:a.eval (.tmp p) = .pointer (some ⟨g,0,none⟩):=by rfl) (hx:a.eval x = .agg cs':=by rfl) (hN:o.dst=none:=by rfl) (hg:o.guard=none:=by rfl):wpList Tryz.prog ops K (o::rest) a w:=by
 have hb:=HS.bx _ (List.mem_of_getElem? hi);refine wpList_plain hg fun K' hK=>?_
 unfold Oper.wp;rw[PZ hb.2.2 hb.2.1 hd ho he hx];show K' (a.put o.dst undef) _;rw[hN];have hne:=hC.ne hb.2.2;exact hK _ _ (h _ (HS.set i hi hd.size) (hC.keep (by simp only[World.setRow,Array.getElem?_modify];rw[if_neg hne])))
end
set_option maxHeartbeats 8000000 in
set_option maxRecDepth 100000 in
theorem ag7 {w:World} {A:Option Addr} {c:Nat} {l:List Int} (hr:Kd.C (Kd.int .u8) w A l.length l) (hc:l.length≤c) (hl:l.length≤1048576):Calls Tryz.prog 6 #[.slice A l.length c] w (fun e w'=>∃cs d nm,e = .returned (.tuple #[.agg cs,.string nm])∧(Sm d∧nm ∈ tL)∧Rs w w' cs d):=by
 have HS:=St.start w (fun _=>False);go_enter Tryz.func6,Tryz.ntmps6;go_wp2_with (first|((with_reducible refine aM (N:=2) rfl ?_);refine bg 2 pK 27 ?_;intro g2 hg w1 hx hb;replace HS:=HS.box hg hx hb rfl;clear hb hx hg)|((with_reducible refine aH (f:=22) rfl ?_);refine bz Tryz.func22 (afC HS.be hr hc hl) ?_;rintro e w1 ⟨g,rfl,hC,hb⟩;refine⟨_,rfl,?_⟩;replace HS:=HS.below hb;clear hb)|((with_reducible refine aH (f:=23) rfl ?_);have hgl:=hC.lt;have hz:=J HS.be.size;refine bz Tryz.func23 (ahc hC HS.be) ?_;rintro e w4 ⟨cs,d,nm,rfl,hG,hF,hm⟩;refine⟨_,rfl,?_⟩;replace HS:=HS.draw hC hm (hF.imp (fun _ h=>h.bM));replace hC:=hm.1;clear hm hF;have hS:=J hG.1.sm;replace hG:=J hG.2)|((with_reducible refine aM (N:=5) rfl ?_);refine bg 5 pK 27 ?_;intro g5 hg w1 hx hb;replace HS:=HS.box hg hx hb rfl;replace hC:=hC.keep (hb.block g hC.lt);clear hb hx hg)|((with_reducible refine dM rfl ?_);(first|refine uSc 0 HS hC HS.q ?_|refine uSc 1 HS hC HS.q ?_);intro w4 HT hD;replace HS:=HT;replace hC:=hD;clear HT hD;simp only[List.set]at HS)|((with_reducible refine aH (f:=24) rfl ?_);refine bz Tryz.func24 (Dl 8 hC HS.be) ?_;rintro e w1 ⟨v,rfl,hm⟩;refine⟨_,rfl,?_⟩;replace HS:=HS.drawn hC hm hgl;replace hC:=hm.1;clear hm;cases v)|((with_reducible refine aH (f:=25) rfl ?_);have avO:=hC.lt;replace hz:=J HS.be.size;refine bz Tryz.func25 (ag6 10 hC HS.be (by decide)) ?_;rintro e w4 ⟨MV,d2,rfl,iD,hF,hm⟩;refine⟨_,rfl,?_⟩;replace HS:=HS.draw hC hm hF;replace hC:=hm.1;clear hm hF;replace hS:=J iD)|(refine br 0 HS ?_))
 all_goals exact bodyPost_ret (gT rfl _ _ g2 27 _ (0,0) _ rfl (HS.bx _ (.tail _ (.head _))).2.2 Tryz.underlying27 rfl (by rw[Tryz.fZ,HS.q.size])) rfl ⟨_,_,nm,rfl,⟨hS.1,hG.1⟩,HS.ft.mono (fun k hk=>by have:=hk.1;have:=hz.1;omega),HS.be⟩
end Go.Proofs.YtingkpnoiekliaaGreat.MZ
end
section
namespace Go.Proofs.YtingkpnoiekliaaGreat.MZ
open Go.RowKit Go.Proofs.YtingkpnoiekliaaGreatW.PrintWords Go.Proofs.YtingkpnoiekliaaGreatW.PrintLast Go.Proofs.YtingkpnoiekliaaGreatW.PrintMore Go.Proofs.YtingkpnoiekliaaGreat.MWords Go.Proofs.YtingkpnoiekliaaGreat.MZ
set_option linter.unusedVariables false
set_option linter.unusedSimpArgs false
abbrev mI:Array Value:=#[.slice none 0 0,.slice none 0 0,.slice none 0 0,.int .i64 0]
theorem St.rz {w0 w:World} {bs:List (Nat × Array Value)} {cs:Array Value} {d:Dk} (h:St w0 (Xo w0) bs (Fe w0.heap.size cs d) w):Rz w0 w cs d:=⟨h.ft.mono (fun k hk=>Nat.not_lt.1 hk.1),h.be⟩
set_option maxHeartbeats 8000000 in
set_option maxRecDepth 100000 in
theorem afb {w:World} {cs:Array Value} {d:Dk} {nm:ByteArray} {b:List Int} {A:Option Addr} {c:Nat} {r:dG} (hr:zw d nm b=r) (hd:cH cs d w) (ho:eE d) (hn:nm.size≤9223372036854775807) (iE:bJ b) (hl:b.length≤1048576) (gb:Kd.C (Kd.int .u8) w A b.length b) (lb:b.length≤c):Calls Tryz.prog 68 #[.agg cs,.string nm,.slice A b.length c] w (Pd w r):=by
 have HS:=St.start w (Xo w);have h4:=hd.size;obtain⟨r0,e0⟩:∃r,xd d nm=r:=⟨_,rfl⟩;obtain⟨r1,e1⟩:∃r,n4 (bR r0).f0 (bR r0).f1 (bR r0).f2 (bR r0).f3 nm=r:=⟨_,rfl⟩;obtain⟨r2,e2⟩:∃r,kg (bR r1).f0 (bR r1).f1 (bR r1).f2 (bR r1).f3 nm b=r:=⟨_,rfl⟩;obtain⟨r3,e3⟩:∃r,nJ (bR r2).f0 (bR r2).f1 (bR r2).f2 (bR r2).f3 nm=r:=⟨_,rfl⟩;obtain⟨z0,o0⟩:=FX ho e0;have o1:=o0.create e1;have o2:=o1.append iE e2;have s0:=ho.1.small;have s1:=o0.1.small;have s2:=o1.1.small;have s3:=o2.1.small;unfold zw at hr;rw[e0,step_pos z0,e1]at hr
 have key:(r1.2.2.2.2=0∧r2.2.2.2.2=0∧r3=r)∨(r1.2.2.2.2=0∧¬r2.2.2.2.2=0∧r2=r)∨(¬r1.2.2.2.2=0∧r1=r):=by
  by_cases z1:r1.2.2.2.2=0
  ·rw[step_pos z1,e2]at hr;by_cases z2:r2.2.2.2.2=0
   ·rw[step_pos z2,e3]at hr;exact Or.inl ⟨z1,z2,hr⟩
   ·rw[xj z2]at hr;exact Or.inr (Or.inl ⟨z1,z2,hr⟩)
  ·rw[xj z1,xj z1]at hr;exact Or.inr (Or.inr ⟨z1,hr⟩)
 clear hr;replace e1:=J e1;replace e2:=J e2;replace e3:=J e3;replace z0:=J z0;replace o0:=J o0;replace o1:=J o1;replace o2:=J o2;have hid:(0<dN d.f1 nm)∨¬(0<dN d.f1 nm):=Classical.em _
 rcases hid with hid|hid
 case' inl=>have Dm:oU d.f0 d.f1 d.f2 d.f3 nm=r0:=by rw[←e0];exact(if_pos hid).symm
 case' inr=>have Dm:r0=(d.f0,d.f1,d.f2,d.f3,0):=by rw[←e0];exact if_neg hid
 case' inl=>have hi:(decide (dN d.f1 nm>0))=true:=decide_eq_true hid
 case' inr=>have hi:(decide (dN d.f1 nm>0))=false:=decide_eq_false hid
 all_goals
  clear hid e0;replace Dm:=J Dm
  rcases key with ⟨y1,y2,rfl⟩|⟨y1,y2,rfl⟩|⟨y1,rfl⟩
 case' inl.inl|inr.inl=>have h1:=beq_iff_eq.2 y1;have h2:=beq_iff_eq.2 y2;clear y2
 case' inl.inr.inl|inr.inr.inl=>have h1:=beq_iff_eq.2 y1;have h2:=beq_eq_false_iff_ne.2 y2;clear y2
 case' inl.inr.inr|inr.inr.inr=>have h1:=beq_eq_false_iff_ne.2 y1
 all_goals
  clear y1;go_enter Tryz.func68,Tryz.ntmps68;go_wp2_with (first|((with_reducible refine aM (N:=3) rfl ?_);refine bg 3 cs 27 ?_;intro g3 hg w1 hx hb;replace HS:=HS.box hg hx hb h4;clear hb hx hg)|((with_reducible refine aM (N:=6) rfl ?_);refine bg 6 mI 27 ?_;intro g6 hg w1 hx hb;replace HS:=HS.box hg hx hb rfl;clear hb hx hg)|((with_reducible refine aM (N:=8) rfl ?_);refine bg 8 mI 27 ?_;intro g8 hg w1 hx hb;replace HS:=HS.box hg hx hb rfl;clear hb hx hg)|(first|refine br 0 HS ?_|refine br 1 HS ?_|refine br 2 HS ?_)|((with_reducible refine dM rfl ?_);(first|refine eP 0 HS HS.q.bM ?_|refine eP 1 HS HS.q.bM ?_|refine eP 0 HS (eh hd HS.be) ?_);intro w1 HT;replace HS:=HT;clear HT;simp only[List.set]at HS)|((with_reducible refine aH (f:=28) rfl ?_);refine bz Tryz.func28 (Dd (nm:=nm) (eh hd HS.be) s0.1) ?_;rintro e w1 ⟨rfl,hb⟩;refine⟨_,rfl,?_⟩;replace HS:=HS.below hb;clear hb)|((with_reducible refine aH (f:=100) rfl ?_);refine bz Tryz.func100 (ae9 Dm.1 (eh hd HS.be) s0.1 hn) ?_;rintro e w1 ⟨c1,rfl,hR⟩;refine⟨_,rfl,?_⟩;rw[z0.1];replace HS:=(HS.call hR.2 hR.1 (xO HS.be)).imp (fun _ h=>Fs.low h.2 HS.be.size);clear hR)|((with_reducible refine aH (f:=101) rfl ?_);(first|refine bz Tryz.func101 (T9 e1.1 HS.q.bM s1.1 hn) ?_|refine bz Tryz.func101 (T9 (d:=bR r0) e1.1 (by rw[Dm.1];exact eh hd HS.be) s1.1 hn) ?_);rintro e w1 ⟨c2,rfl,hR⟩;refine⟨_,rfl,?_⟩;replace HS:=(HS.call hR.2 hR.1 (xO HS.be)).imp (fun _ h=>Fs.low h.2 HS.be.size);clear hR)|((with_reducible refine aH (f:=41) rfl ?_);refine bz Tryz.func41 (ae4 e2.1 HS.q.bM s2.1 hn s2.2 (Nat.le_trans hl (by decide)) (Kd.az gb HS.be) lb) ?_;rintro e w1 ⟨c3,rfl,hR⟩;refine⟨_,rfl,?_⟩;replace HS:=(HS.call hR.2 hR.1 (xO HS.be)).imp (fun _ h=>Fs.low h.2 HS.be.size);clear hR)|((with_reducible refine aH (f:=102) rfl ?_);refine bz Tryz.func102 (afd e3.1 HS.q.bM s3.1 hn) ?_;rintro e w1 ⟨c4,rfl,hR⟩;refine⟨_,rfl,?_⟩;replace HS:=(HS.call hR.2 hR.1 (xO HS.be)).imp (fun _ h=>Fs.low h.2 HS.be.size);clear hR))
 all_goals exact bodyPost_ret (gT rfl _ _ g6 27 _ (0,0) _ rfl (HS.bx _ (.tail _ (.head _))).2.2 Tryz.underlying27 rfl (by rw[Tryz.fZ,HS.q.size])) rfl ⟨_,rfl,HS.rz⟩
set_option maxHeartbeats 8000000 in
set_option maxRecDepth 100000 in
theorem afc {w:World} {cs:Array Value} {d:Dk} {nm tn:ByteArray} {b:List Int} {A:Option Addr} {c:Nat} {r:dG} (hr:s6 d nm b tn=r) (hd:cH cs d w) (ho:eE d) (hn:nm.size≤9223372036854775807) (ht:tn.size≤9223372036854775807) (iE:bJ b) (hl:b.length≤1048576) (gb:Kd.C (Kd.int .u8) w A b.length b) (lb:b.length≤c):Calls Tryz.prog 29 #[.agg cs,.string nm,.slice A b.length c,.string tn] w (Pd w r):=by
 have HS:=St.start w (Xo w);have h4:=hd.size;obtain⟨r1,e1⟩:∃r,zw d nm b=r:=⟨_,rfl⟩;obtain⟨r2,e2⟩:∃r,oV (bR r1).f0 (bR r1).f1 (bR r1).f2 (bR r1).f3 nm tn=r:=⟨_,rfl⟩;obtain⟨r3,e3⟩:∃r,oX (bR r2).f0 (bR r2).f1 (bR r2).f2 (bR r2).f3=r:=⟨_,rfl⟩;have o1:=YX ho iE e1;have o2:=o1.rename e2;have s0:=ho.1.small;have s1:=o1.1.small;have s2:=o2.1.small;unfold s6 vy at hr;rw[e1]at hr
 have key:(r1.2.2.2.2=0∧r2.2.2.2.2=0∧r3.2.2.2.2=0∧r3=r)∨(r1.2.2.2.2=0∧r2.2.2.2.2=0∧¬r3.2.2.2.2=0∧r=(d.f0,d.f1,d.f2,d.f3,r3.2.2.2.2))∨(r1.2.2.2.2=0∧¬r2.2.2.2.2=0∧r=(d.f0,d.f1,d.f2,d.f3,r2.2.2.2.2))∨(¬r1.2.2.2.2=0∧r=(d.f0,d.f1,d.f2,d.f3,r1.2.2.2.2)):=by
  by_cases z1:r1.2.2.2.2=0
  ·rw[step_pos z1,e2]at hr;by_cases z2:r2.2.2.2.2=0
   ·rw[step_pos z2,e3]at hr;by_cases z3:r3.2.2.2.2=0
    ·exact Or.inl ⟨z1,z2,z3,(if_pos z3).symm.trans hr⟩
    ·exact Or.inr (Or.inl ⟨z1,z2,z3,hr.symm.trans (if_neg z3)⟩)
   ·rw[xj z2]at hr;exact Or.inr (Or.inr (Or.inl ⟨z1,z2,hr.symm.trans (if_neg z2)⟩))
  ·rw[xj z1,xj z1]at hr;exact Or.inr (Or.inr (Or.inr ⟨z1,hr.symm.trans (if_neg z1)⟩))
 clear hr;replace e1:=J e1;replace e2:=J e2;replace e3:=J e3;replace o1:=J o1;replace o2:=J o2
 rcases key with ⟨y1,y2,y3,rfl⟩|⟨y1,y2,y3,rfl⟩|⟨y1,y2,rfl⟩|⟨y1,rfl⟩
 case' inl=>have h1:=beq_iff_eq.2 y1;have h2:=beq_iff_eq.2 y2;have h3:=bne_eq_false_iff_eq.2 y3;clear y2 y3
 case' inr.inl=>have h1:=beq_iff_eq.2 y1;have h2:=beq_iff_eq.2 y2;have h3:=bne_iff_ne.2 y3;clear y2 y3
 case' inr.inr.inl=>have h1:=beq_iff_eq.2 y1;have h2:=beq_eq_false_iff_ne.2 y2;have h3:=bne_iff_ne.2 y2;clear y2
 case' inr.inr.inr=>have h1:=beq_eq_false_iff_ne.2 y1;have h3:=bne_iff_ne.2 y1
 all_goals
  clear y1;go_enter Tryz.func29,Tryz.ntmps29;go_wp2_with (first|((with_reducible refine aM (N:=4) rfl ?_);refine bg 4 cs 27 ?_;intro g4 hg w1 hx hb;replace HS:=HS.box hg hx hb h4;clear hb hx hg)|((with_reducible refine aM (N:=8) rfl ?_);refine bg 8 mI 27 ?_;intro g8 hg w1 hx hb;replace HS:=HS.box hg hx hb rfl;clear hb hx hg)|((with_reducible refine aM (N:=10) rfl ?_);refine bg 10 mI 27 ?_;intro g10 hg w1 hx hb;replace HS:=HS.box hg hx hb rfl;clear hb hx hg)|(first|refine br 0 HS ?_|refine br 1 HS ?_|refine br 2 HS ?_)|((with_reducible refine dM rfl ?_);(first|refine eP 0 HS HS.q.bM ?_|refine eP 1 HS HS.q.bM ?_);intro w1 HT;replace HS:=HT;clear HT;simp only[List.set]at HS)|((with_reducible refine aH (f:=68) rfl ?_);refine bz Tryz.func68 (afb e1.1 (eh hd HS.be) ho hn iE hl (Kd.az gb HS.be) lb) ?_;rintro e w1 ⟨c1,rfl,hR⟩;refine⟨_,rfl,?_⟩;replace HS:=(HS.call hR.2 hR.1 (xO HS.be)).imp (fun _ h=>Fs.low h.2 HS.be.size);clear hR)|((with_reducible refine aH (f:=69) rfl ?_);refine bz Tryz.func69 (afa e2.1 HS.q.bM s1.1 hn ht) ?_;rintro e w1 ⟨c2,rfl,hR⟩;refine⟨_,rfl,?_⟩;replace HS:=(HS.call hR.2 hR.1 (xO HS.be)).imp (fun _ h=>Fs.low h.2 HS.be.size);clear hR)|((with_reducible refine aH (f:=70) rfl ?_);refine bz Tryz.func70 (afe e3.1 HS.q.bM s2.1) ?_;rintro e w1 ⟨c3,rfl,hR⟩;refine⟨_,rfl,?_⟩;replace HS:=(HS.call hR.2 hR.1 (xO HS.be)).imp (fun _ h=>Fs.low h.2 HS.be.size);clear hR)|((with_reducible refine aH (f:=27) rfl ?_);refine bz Tryz.func27 (Ay (eh hd HS.be) s0.1) ?_;rintro e w1 ⟨c4,rfl,hR⟩;refine⟨_,rfl,?_⟩;replace HS:=(HS.call hR.2 hR.1 (xO HS.be)).imp (fun _ h=>Fs.low h.2 HS.be.size);clear hR))
 all_goals exact bodyPost_ret (gT rfl _ _ g8 27 _ (0,0) _ rfl (HS.bx _ (.tail _ (.head _))).2.2 Tryz.underlying27 rfl (by rw[Tryz.fZ,HS.q.size])) rfl ⟨_,rfl,HS.rz⟩
abbrev Lz (lo hi:Nat) (v:Value) (L:List (List Int)) (W:World):Prop:=Kd.S (Mz.kz 5) 22 W lo (fun k=>lo≤k∧k<hi) v L
abbrev Ly (lo hi:Nat) (v:Value) (L:List (List Int)) (W:World):Prop:=Kd.S (Kd.slice 5 (Kd.int .u8)) 22 W lo (fun k=>lo≤k∧k<hi) v L
theorem ML {w:World} {b:List Int} {A:Option Addr} {c:Nat} {L:List (List Int)} {n:Int} (he:iF b=(L,n)) (iE:bJ b) (hl:b.length≤1048576) (gb:Kd.C (Kd.int .u8) w A b.length b) (lb:b.length≤c):Calls Tryz.prog 10 #[.slice A b.length c] w (fun e w'=>∃v,e = .returned (.tuple #[v,.int .i64 n])∧Foot (Lz w.heap.size w'.heap.size v L) w' (fun k=>w.heap.size≤k)∧Below w.heap.size w w'):=by
 obtain⟨K,hk⟩:=akM b iE hl;rw[he]at hk;refine(ob.calls K A c b _ _ w gb lb (hk K (Nat.le_refl _))).mono (fun e w' ⟨v,he,h0,hb⟩=>⟨v,he,?_,hb⟩);exact(Dy (Kd.eu (Kd.nU h0) (fun k hk=>⟨hk.2.1,hk.2.2.1⟩))).mono (fun k hk=>hk.1)
theorem ama {w:World} {b:List Int} {A:Option Addr} {c:Nat} {L:List (List Int)} {n:Int} (he:iF b=(L,n)) (iE:bJ b) (hl:b.length≤1048576) (gb:Kd.C (Kd.int .u8) w A b.length b) (lb:b.length≤c):Calls Tryz.prog 33 #[.slice A b.length c] w (fun e w'=>∃v,e = .returned (.tuple #[v,.int .i64 n])∧Foot (Ly w.heap.size w'.heap.size v L) w' (fun k=>w.heap.size≤k)∧Below w.heap.size w w'):=by
 obtain⟨K,hk⟩:=amv b iE hl;rw[he]at hk;refine(nI.calls K A c b _ _ w gb lb (hk K (Nat.le_refl _))).mono (fun e w' ⟨v,he,h0,hb⟩=>⟨v,he,?_,hb⟩);exact(Dy (Kd.eu (Kd.nU h0) (fun k hk=>⟨hk.2.1,hk.2.2.1⟩))).mono (fun k hk=>hk.1)
def Pm (w:World) (r:dG) (L:List (List Int)) (e:Ending) (w':World):Prop:=∃cs' v m,e = .returned (.tuple #[.agg cs',v,.int .i64 r.2.2.2.2])∧w.heap.size≤m∧Fs w.heap.size (fun k=>m≤k) cs' (bR r) w'∧Lz w.heap.size m v L w'∧Below w.heap.size w w'
end Go.Proofs.YtingkpnoiekliaaGreat.MZ
end
section
namespace Go.Proofs.YtingkpnoiekliaaGreat.MZ
open Go.RowKit Go.Proofs.YtingkpnoiekliaaGreatW.PrintWords Go.Proofs.YtingkpnoiekliaaGreatW.PrintLast Go.Proofs.YtingkpnoiekliaaGreatW.PrintMore Go.Proofs.YtingkpnoiekliaaGreat.MWords Go.Proofs.YtingkpnoiekliaaGreat.MZ
set_option linter.unusedVariables false
set_option linter.unusedSimpArgs false
def Pt (w:World) (r:dG) (e:Ending) (w':World):Prop:=∃cs',e = .returned (.tuple #[.agg cs',.int .i64 r.2.2.2.2])∧Rf w w' cs' (bR r)
theorem al5 {w:World} {cs:Array Value} {d:Dk} {nm:ByteArray} {r:dG} (hr:n4 d.f0 d.f1 d.f2 d.f3 nm=r) (hd:cH cs d w) (hs:Small d.f0 d.f1 d.f2) (hn:nm.size≤9223372036854775807):Calls Tryz.prog 58 #[.agg cs,.string nm] w (Pt w r):=by
 subst hr;exact P1 hd hs hn
theorem amd {w:World} {cs:Array Value} {d:Dk} {nm:ByteArray} {r:dG} (hr:nJ d.f0 d.f1 d.f2 d.f3 nm=r) (hd:cH cs d w) (hs:Small d.f0 d.f1 d.f2) (hn:nm.size≤9223372036854775807):Calls Tryz.prog 62 #[.agg cs,.string nm] w (Pt w r):=by
 subst hr;exact P4 hd hs hn
theorem amb {w:World} {cs:Array Value} {d:Dk} {nm:ByteArray} {r:dG} (hr:oU d.f0 d.f1 d.f2 d.f3 nm=r) (hd:cH cs d w) (hs:Small d.f0 d.f1 d.f2) (hn:nm.size≤9223372036854775807):Calls Tryz.prog 76 #[.agg cs,.string nm] w (Pt w r):=by
 subst hr;exact Y9 hd hs hn
theorem ame {w:World} {cs:Array Value} {d:Dk}  {r:dG} (hr:oX d.f0 d.f1 d.f2 d.f3=r) (hd:cH cs d w) (hs:Small d.f0 d.f1 d.f2):Calls Tryz.prog 63 #[.agg cs] w (Pt w r):=by
 subst hr;exact P5 hd hs
theorem amc {w:World} {cs:Array Value} {d:Dk} {nm nq:ByteArray} {r:dG} (hr:oV d.f0 d.f1 d.f2 d.f3 nm nq=r) (hd:cH cs d w) (hs:Small d.f0 d.f1 d.f2) (hn:nm.size≤9223372036854775807) (hq:nq.size≤9223372036854775807):Calls Tryz.prog 77 #[.agg cs,.string nm,.string nq] w (Pt w r):=by
 subst hr;exact Za hd hs hn hq
theorem al4 {w:World} {cs:Array Value} {d:Dk} {nm:ByteArray} {b:List Int} {A:Option Addr} {c:Nat} {r:dG} (hr:kg d.f0 d.f1 d.f2 d.f3 nm b=r) (hd:cH cs d w) (hs:Small d.f0 d.f1 d.f2) (hn:nm.size≤9223372036854775807) (hl:∀x ∈ d.f0,x.f1.length≤1048576) (hb:b.length≤1048600) (gb:Kd.C (Kd.int .u8) w A b.length b) (lb:b.length≤c):Calls Tryz.prog 65 #[.agg cs,.string nm,.slice A b.length c] w (Pt w r):=by
 subst hr;exact J4 hd hs hn hl hb gb lb
def Qo (w:World) (HG cs:Array Value) (d d':Dk) (k:Nat) (W:World):Prop:=(k=0∧cs=HG∧d'=d)∨Fd w.heap.size cs d' W
theorem Qo.bM {w W:World} {HG cs:Array Value} {d d':Dk} {k:Nat} (h:Qo w HG cs d d' k W) (hd:cH HG d w) (hb:Below w.heap.size w W):cH cs d' W:=by
 rcases h with ⟨_,rfl,rfl⟩|h
 ·exact eh hd hb
 ·exact h.bM
theorem Yy {d:Dk} (h:yd d) (nm:ByteArray):(0≤nameAt d.f1 nm)↔0<dN d.f1 nm:=by
 rcases MZ.look d.f1 nm with ⟨e,he,h1,h2,h3,h4⟩|⟨h1,h2,h3⟩
 ·have:=OA h he;omega
 ·omega
set_option maxHeartbeats 8000000 in
set_option maxRecDepth 100000 in
theorem amo {w:World} {cs:Array Value} {d:Dk} {tn:ByteArray} {b:List Int} {A:Option Addr} {c:Nat} {r:dG} (hr:vy d jB b tn=r) (hd:cH cs d w) (ho:eE d) (ht:tn.size≤9223372036854775807) (iE:bJ b) (hl:b.length≤1048576) (gb:Kd.C (Kd.int .u8) w A b.length b) (lb:b.length≤c):Calls Tryz.prog 34 #[.agg cs,.string tn,.slice A b.length c] w (Pt w r):=by
 have HS:=St.start w (Xo w);obtain⟨a0,q0,a1,q1,a2,q2,rfl,_,_,l1,g1,_⟩:=hd.open;have s0:=ho.1.small;have hn:=ON.2;obtain⟨C,hC⟩:∃C,chain d jB b tn=C:=⟨_,rfl⟩;have h5:C 5=r:=by rw[←hC];exact afn.trans hr
 have hk:∀k,eE (bR (C k)):=by rw[←hC];exact afo ho iE
 have hx:∀k,(C k).2.2.2.2=0→C (k+1)=OP jB b tn k (bR (C k)):=fun k h=>by rw[←hC]at h ⊢;exact step_pos h
 have hs:∀k m,¬(C k).2.2.2.2=0→C (k+m)=C k:=fun k m h=>by rw[←hC]at h ⊢;exact afp h m
 have e0:xd d jB=C 0:=by rw[←hC];rfl
 obtain⟨z0,o0⟩:=FX ho e0;clear hC hr;replace h5:=J h5;replace hk:=J hk;replace hx:=J hx;replace hs:=J hs;obtain⟨p,hp⟩:∃p,decide (nameAt d.f1 jB≥0)=p:=⟨_,rfl⟩;cases p
 case' false=>have e1:C 0=(d.f0,d.f1,d.f2,d.f3,0):=by rw[←e0];exact if_neg (fun h=>of_decide_eq_false hp ((Yy ho.1 jB).2 h))
 case' true=>have e1:oU d.f0 d.f1 d.f2 d.f3 jB=C 0:=by rw[←e0];exact(if_pos ((Yy ho.1 jB).1 (of_decide_eq_true hp))).symm
 all_goals
  replace e1:=J e1;clear e0;go_enter Tryz.func34,Tryz.ntmps34;go_wp2_with (first|((with_reducible refine aM (N:=3) rfl ?_);refine bg 3 #[.slice a0 d.f0.length q0,.slice a1 d.f1.length q1,.slice a2 d.f2.length q2,.int .i64 d.f3] 27 ?_;intro g3 hg w1 hx_ hb;replace HS:=HS.box hg hx_ hb rfl;clear hb hx_ hg)|((with_reducible refine aM (N:=6) rfl ?_);refine bg 6 mI 27 ?_;intro g6 hg w1 hx_ hb;replace HS:=HS.box hg hx_ hb rfl;clear hb hx_ hg)|((with_reducible refine aM (N:=8) rfl ?_);refine bg 8 mI 27 ?_;intro g8 hg w1 hx_ hb;replace HS:=HS.box hg hx_ hb rfl;clear hb hx_ hg)|(first|refine br 0 HS ?_|refine br 1 HS ?_|refine br 2 HS ?_)|(refine kL 0 1 HS ?_)|((with_reducible refine dM rfl ?_);(first|refine eP 0 HS HS.q.bM ?_|refine eP 0 HS (eh hd HS.be) ?_);intro w1 HT;replace HS:=HT;clear HT;simp only[List.set]at HS)|((with_reducible refine aH (f:=73) rfl ?_);refine bz Tryz.func73 (Y1 (nm:=jB) (Kd.az g1 HS.be) l1 s0.1.h1) ?_;rintro e w1 ⟨rfl,hb⟩;refine⟨_,rfl,?_⟩;replace HS:=HS.below hb;clear hb)|((with_reducible refine aH (f:=76) rfl ?_);refine bz Tryz.func76 (amb (nm:=jB) e1.1 (eh hd HS.be) s0.1 hn) ?_;rintro e w1 ⟨c1,rfl,hR⟩;refine⟨_,rfl,?_⟩;replace HS:=(HS.call hR.2 hR.1 (xO HS.be)).imp (fun _ h=>Fr.low h.2 HS.be.size);clear hR))
 all_goals (first|replace HS:St w (Xo w) _ (Qo w #[.slice a0 d.f0.length q0,.slice a1 d.f1.length q1,.slice a2 d.f2.length q2,.int .i64 d.f3] #[.slice a0 d.f0.length q0,.slice a1 d.f1.length q1,.slice a2 d.f2.length q2,.int .i64 d.f3] d (bR (C 0)) 0) _:=HS.imp (fun _ _=>Or.inl ⟨rfl,rfl,by rw[e1.1];rfl⟩)|replace HS:=HS.imp (Q':=Qo w #[.slice a0 d.f0.length q0,.slice a1 d.f1.length q1,.slice a2 d.f2.length q2,.int .i64 d.f3] _ d (bR (C 0)) 0) (fun _ h=>Or.inr h))
 all_goals
  clear e1 hp;replace o0:=J o0;go_loopg [9,10] 5 (fun kq v9 v10 w'=>∃(k:Nat) (fO:Int) (c8:Array Value),v10 = .int .i64 fO∧v9 = .int .i64 (C k).2.2.2.2∧Aside0 (fO=(k:Int)∧kq+k=5)∧St w (Xo w) [(g8,c8),(g6,mI),(g3,#[.slice a0 d.f0.length q0,.slice a1 d.f1.length q1,.slice a2 d.f2.length q2,.int .i64 d.f3])] (Qo w #[.slice a0 d.f0.length q0,.slice a1 d.f1.length q1,.slice a2 d.f2.length q2,.int .i64 d.f3] c8 d (bR (C k)) k) w')
  case atStart=>exact⟨0,0,_,rfl,by rw[z0],⟨rfl,rfl⟩,HS⟩
  case round=>
   clear HS;obtain⟨k,fO,c8,rfl,rfl,l8,HS⟩:=hrel;by_cases hz:(C k).2.2.2.2=0
   ·have im:((C k).2.2.2.2 == 0)=true:=beq_iff_eq.2 hz;replace hz:=J hz;cases gk with
    |zero=>
     have N8:decide (fO<5)=false:=decide_eq_false (by have:=l8.1;omega);have Bn:=J (show k≠0 by have:=l8.1;omega);obtain rfl:k=5:=by have:=l8.1;omega
     obtain rfl:=h5.1;go_wp2_with (first|(first|refine br 0 HS ?_|refine br 1 HS ?_|refine br 2 HS ?_)|((with_reducible refine dM rfl ?_);refine eP 1 HS (HS.q.bM hd HS.be) ?_;intro w1 HT;replace HS:=HT;clear HT;simp only[List.set]at HS));exact bodyPost_ret (gT rfl _ _ g6 27 _ (0,0) _ rfl (HS.bx _ (.tail _ (.head _))).2.2 Tryz.underlying27 rfl (by rw[Tryz.fZ,(HS.q.bM hd HS.be).size])) rfl ⟨_,rfl,(HS.imp (fun W h=>h.resolve_left (fun h=>Bn.1 h.1))).rf⟩
    |succ k1=>
     have h01:k=0∨k=1∨k=2∨k=3∨k=4:=by have:=l8.1;omega
     rcases h01 with rfl|rfl|rfl|rfl|rfl
     ·obtain rfl:fO=0:=by have:=l8.1.1;omega
      have e:=J (show n4 (bR (C 0)).f0 (bR (C 0)).f1 (bR (C 0)).f2 (bR (C 0)).f3 jB=C 1 from (hx.1 0 hz.1).symm);go_wp2_with (first|(first|refine br 0 HS ?_|refine br 1 HS ?_|refine br 2 HS ?_)|((with_reducible refine aH (f:=58) rfl ?_);refine bz Tryz.func58 (al5 e.1 (HS.q.bM hd HS.be) (hk.1 0).1.small.1 hn) ?_;rintro e w1 ⟨c1,rfl,hR⟩;refine⟨_,rfl,?_⟩;replace HS:=(HS.call hR.2 hR.1 (xO HS.be)).imp (fun _ h=>Fr.low h.2 HS.be.size);clear hR)|((with_reducible refine dM rfl ?_);refine eP 0 HS HS.q.bM ?_;intro w1 HT;replace HS:=HT;clear HT;simp only[List.set]at HS));go_roundg k1
      case measure=>omega
      case rel=>exact⟨1,1,_,mE,rfl,⟨rfl,by have:=l8.1.2;omega⟩,HS.imp (fun _ h=>Or.inr h)⟩
     ·obtain rfl:fO=1:=by have:=l8.1.1;omega
      have e:=J (show kg (bR (C 1)).f0 (bR (C 1)).f1 (bR (C 1)).f2 (bR (C 1)).f3 jB b=C 2 from (hx.1 1 hz.1).symm);go_wp2_with (first|(first|refine br 0 HS ?_|refine br 1 HS ?_|refine br 2 HS ?_)|((with_reducible refine aH (f:=65) rfl ?_);refine bz Tryz.func65 (al4 e.1 (HS.q.bM hd HS.be) (hk.1 1).1.small.1 hn (hk.1 1).1.small.2 (Nat.le_trans hl (by decide)) (Kd.az gb HS.be) lb) ?_;rintro e w1 ⟨c1,rfl,hR⟩;refine⟨_,rfl,?_⟩;replace HS:=(HS.call hR.2 hR.1 (xO HS.be)).imp (fun _ h=>Fr.low h.2 HS.be.size);clear hR)|((with_reducible refine dM rfl ?_);refine eP 0 HS HS.q.bM ?_;intro w1 HT;replace HS:=HT;clear HT;simp only[List.set]at HS));go_roundg k1
      case measure=>omega
      case rel=>exact⟨2,2,_,mE,rfl,⟨rfl,by have:=l8.1.2;omega⟩,HS.imp (fun _ h=>Or.inr h)⟩
     ·obtain rfl:fO=2:=by have:=l8.1.1;omega
      have e:=J (show nJ (bR (C 2)).f0 (bR (C 2)).f1 (bR (C 2)).f2 (bR (C 2)).f3 jB=C 3 from (hx.1 2 hz.1).symm);go_wp2_with (first|(first|refine br 0 HS ?_|refine br 1 HS ?_|refine br 2 HS ?_)|((with_reducible refine aH (f:=62) rfl ?_);refine bz Tryz.func62 (amd e.1 (HS.q.bM hd HS.be) (hk.1 2).1.small.1 hn) ?_;rintro e w1 ⟨c1,rfl,hR⟩;refine⟨_,rfl,?_⟩;replace HS:=(HS.call hR.2 hR.1 (xO HS.be)).imp (fun _ h=>Fr.low h.2 HS.be.size);clear hR)|((with_reducible refine dM rfl ?_);refine eP 0 HS HS.q.bM ?_;intro w1 HT;replace HS:=HT;clear HT;simp only[List.set]at HS));go_roundg k1
      case measure=>omega
      case rel=>exact⟨3,3,_,mE,rfl,⟨rfl,by have:=l8.1.2;omega⟩,HS.imp (fun _ h=>Or.inr h)⟩
     ·obtain rfl:fO=3:=by have:=l8.1.1;omega
      have e:=J (show oV (bR (C 3)).f0 (bR (C 3)).f1 (bR (C 3)).f2 (bR (C 3)).f3 jB tn=C 4 from (hx.1 3 hz.1).symm);go_wp2_with (first|(first|refine br 0 HS ?_|refine br 1 HS ?_|refine br 2 HS ?_)|((with_reducible refine aH (f:=77) rfl ?_);refine bz Tryz.func77 (amc e.1 (HS.q.bM hd HS.be) (hk.1 3).1.small.1 hn ht) ?_;rintro e w1 ⟨c1,rfl,hR⟩;refine⟨_,rfl,?_⟩;replace HS:=(HS.call hR.2 hR.1 (xO HS.be)).imp (fun _ h=>Fr.low h.2 HS.be.size);clear hR)|((with_reducible refine dM rfl ?_);refine eP 0 HS HS.q.bM ?_;intro w1 HT;replace HS:=HT;clear HT;simp only[List.set]at HS));go_roundg k1
      case measure=>omega
      case rel=>exact⟨4,4,_,mE,rfl,⟨rfl,by have:=l8.1.2;omega⟩,HS.imp (fun _ h=>Or.inr h)⟩
     ·obtain rfl:fO=4:=by have:=l8.1.1;omega
      have e:=J (show oX (bR (C 4)).f0 (bR (C 4)).f1 (bR (C 4)).f2 (bR (C 4)).f3=C 5 from (hx.1 4 hz.1).symm);go_wp2_with (first|(first|refine br 0 HS ?_|refine br 1 HS ?_|refine br 2 HS ?_)|((with_reducible refine aH (f:=63) rfl ?_);refine bz Tryz.func63 (ame e.1 (HS.q.bM hd HS.be) (hk.1 4).1.small.1) ?_;rintro e w1 ⟨c1,rfl,hR⟩;refine⟨_,rfl,?_⟩;replace HS:=(HS.call hR.2 hR.1 (xO HS.be)).imp (fun _ h=>Fr.low h.2 HS.be.size);clear hR)|((with_reducible refine dM rfl ?_);refine eP 0 HS HS.q.bM ?_;intro w1 HT;replace HS:=HT;clear HT;simp only[List.set]at HS));go_roundg k1
      case measure=>omega
      case rel=>exact⟨5,5,_,mE,rfl,⟨rfl,by have:=l8.1.2;omega⟩,HS.imp (fun _ h=>Or.inr h)⟩
   ·have im:((C k).2.2.2.2 == 0)=false:=beq_eq_false_iff_ne.2 hz;have Bn:=J (show k≠0 from fun h=>hz (by rw[h];exact z0));have hr:C k=r:=by have h:=hs.1 k (5-k) hz;rw[←h5.1,←h];congr 1;have:=l8.1;omega
    subst hr;by_cases N8:decide (fO<5)=true
    ·go_wp2_with (first|(first|refine br 0 HS ?_|refine br 1 HS ?_|refine br 2 HS ?_)|((with_reducible refine dM rfl ?_);refine eP 1 HS (HS.q.bM hd HS.be) ?_;intro w1 HT;replace HS:=HT;clear HT;simp only[List.set]at HS));exact bodyPost_ret (gT rfl _ _ g6 27 _ (0,0) _ rfl (HS.bx _ (.tail _ (.head _))).2.2 Tryz.underlying27 rfl (by rw[Tryz.fZ,(HS.q.bM hd HS.be).size])) rfl ⟨_,rfl,(HS.imp (fun W h=>h.resolve_left (fun h=>Bn.1 h.1))).rf⟩
    ·replace N8:=Bool.eq_false_iff.2 N8;go_wp2_with (first|(first|refine br 0 HS ?_|refine br 1 HS ?_|refine br 2 HS ?_)|((with_reducible refine dM rfl ?_);refine eP 1 HS (HS.q.bM hd HS.be) ?_;intro w1 HT;replace HS:=HT;clear HT;simp only[List.set]at HS));exact bodyPost_ret (gT rfl _ _ g6 27 _ (0,0) _ rfl (HS.bx _ (.tail _ (.head _))).2.2 Tryz.underlying27 rfl (by rw[Tryz.fZ,(HS.q.bM hd HS.be).size])) rfl ⟨_,rfl,(HS.imp (fun W h=>h.resolve_left (fun h=>Bn.1 h.1))).rf⟩
end Go.Proofs.YtingkpnoiekliaaGreat.MZ
end
