/- FnExactLog: Log of the program and of the reference answer the same, for all disks, names and bytes; what it answers is new memory. No condition. -/
import Derived.Test.YtgpkdbnikcghgaaMFnExactLogDef
set_option linter.unusedVariables false
set_option linter.unusedSimpArgs false
namespace Go.Proofs.Ytgpkdbnikcghgaa.MPureFnExactLog
open Go.RowKit Go.Proofs.Ytgpkdbnikcghgaa.MD Go.Proofs.YtgpkdbnikcghgaaW.PrintWords Go.Proofs.YtgpkdbnikcghgaaW.PrintLast Go.Proofs.YtgpkdbnikcghgaaW.PrintMore
theorem fj {i:Int} (h0:-9223372036854775808≤i) (h1:i≤9223372036854775807):wrap64 i=i:=by unfold wrap64;omega
theorem ca {i n:Nat} (h:i<n) (hn:n≤9223372036854775807):wrap64 ((i:Int)+1)=((i+1:Nat):Int):=by unfold wrap64;omega
theorem EG (xs:List Int) (i:Nat):rd xs (i:Int)=xs.getD i 0:=by simp[rd]
theorem tA {α:Type} (l:List α) (i:Nat) (x:α) (h:i<l.length):(l.set i x).take (i+1)=l.take i++[x]:=by
 rw[List.take_succ_eq_append_getElem (by simpa using h),List.getElem_set_self,List.take_set_of_le (Nat.le_refl _)]
theorem RH {α:Type} (l:List α) (i:Nat) (d:α) (h:i<l.length):l.take (i+1)=l.take i++[l.getD i d]:=by
 rw[List.take_succ_eq_append_getElem h,List.getD_eq_getElem?_getD,List.getElem?_eq_getElem h];rfl
theorem tz {α:Type} {l m:List α} {n:Nat} (h:l.take n=m) (hl:l.length=n):l=m:=by
 rw[←h,←hl,List.take_length]
theorem wf_u8 {x:Int} (h:(Lit.int .u8 x).wf=true):0≤x∧x≤255:=by
 simp[Lit.wf,IntKind.min,IntKind.max,IntKind.signed,IntKind.bits]at h;omega
theorem FZ {β:Type} (L:Nat→List β→Int→Option (List β)) (n:Nat) (g:Nat→β) (z:β)
 (hs:∀(i:Nat) (out:List β) (r:List β),i<n→out.length=n→Ev (fun k=>L k (out.set i (g i)) ((i+1:Nat):Int)) r→Ev (fun k=>L k out (i:Int)) r)
 (he:∀out:List β,out.length=n→Ev (fun k=>L k out (n:Int)) out):Ev (fun k=>L k (List.replicate n z) 0) ((List.range n).map g):=by
 have key:∀(d i:Nat) (out:List β),i+d=n→out.length=n→out.take i=(List.range i).map g→Ev (fun k=>L k out (i:Int)) ((List.range n).map g):=by
  intro d
  induction d with
  |zero=>
   intro i out hi hl ht;have:i=n:=by omega
   subst this;have e:=tz ht hl;rw[←e];exact he out hl
  |succ d ih=>
   intro i out hi hl ht;refine hs i out _ (by omega) hl (ih (i+1) _ (by omega) (by simp[hl]) ?_);rw[tA _ _ _ (by omega),ht,List.range_succ,List.map_append];rfl
 exact key n 0 _ (by omega) (by simp) (by simp)
theorem QC {β σ:Type} (L:Nat→List β→σ→Int→Option (σ × List β)) (n:Nat) (g:Nat→β) (st:Nat→σ)
 (hs:∀(i:Nat) (out:List β) (r:σ × List β),i<n→out.length=n→Ev (fun k=>L k (out.set i (g i)) (st (i+1)) ((i+1:Nat):Int)) r→Ev (fun k=>L k out (st i) (i:Int)) r)
 (he:∀out:List β,out.length=n→Ev (fun k=>L k out (st n) (n:Int)) (st n,out)) (l:List β) (hl:l.length=n):Ev (fun k=>L k l (st 0) 0) (st n,(List.range n).map g):=by
 have key:∀(d i:Nat) (out:List β),i+d=n→out.length=n→out.take i=(List.range i).map g→Ev (fun k=>L k out (st i) (i:Int)) (st n,(List.range n).map g):=by
  intro d
  induction d with
  |zero=>
   intro i out hi hl ht;have:i=n:=by omega
   subst this;have e:=tz ht hl;rw[←e];exact he out hl
  |succ d ih=>
   intro i out hi hl ht;refine hs i out _ (by omega) hl (ih (i+1) _ (by omega) (by simp[hl]) ?_);rw[tA _ _ _ (by omega),ht,List.range_succ,List.map_append];rfl
 exact key n 0 _ (by omega) hl (by simp)
theorem we {ρ : Type} (g : Nat → Nat → Option ρ) (n : Nat) (r : ρ) (hs : ∀ i, i < n → Ev (g (i + 1)) r → Ev (g i) r) (he : Ev (g n) r) : Ev (g 0) r := by
  have key : ∀ (d i : Nat), i + d = n → Ev (g i) r := by
    intro d
    induction d with
    | zero => intro i hi; have : i = n := by omega
              subst this; exact he
    | succ d ih => intro i hi; exact hs i (by omega) (ih (i + 1) (by omega))
  exact key n 0 (by omega)
theorem AM {α β:Type} (l:List α) (f:α→β) (d:α):(List.range l.length).map (fun i=>f (l.getD i d))=l.map f:=by
 apply List.ext_getElem?;intro i;rw[List.getElem?_map,List.getElem?_map];by_cases h:i<l.length
 ·simp[h,List.getD_eq_getElem?_getD]
 ·rw[List.getElem?_eq_none (by simp;omega),List.getElem?_eq_none (by omega)];rfl
theorem Ha {β:Type} (n i:Nat) (g:Nat→β) (d:β) (h:i<n):((List.range n).map g).getD i d=g i:=by
 simp[List.getD_eq_getElem?_getD,h]
theorem Ev.bind' {α β:Type} {g:Nat→Option α} {f:Nat→α→Option β} {a:α} {r:β} (h:Ev g a) (k:Ev (fun n=>f n a) r):Ev (fun n=>(g n).bind (f n)) r:=Ev.bind h k
theorem Ev.round {α:Type} {g f:Nat→Option α} {r:α} (h:∃K,∀k,K≤k→g (k+1)=f k) (k:Ev f r):Ev g r:=by
 obtain⟨K,h⟩:=h;obtain⟨K',k⟩:=k
 exact⟨K+K'+1,fun n hn=>by
  obtain⟨m,rfl⟩:∃m,n=m+1:=⟨n-1,by omega⟩;rw[h m (by omega)];exact k m (by omega)⟩
theorem Ev.ends {α:Type} {g:Nat→Option α} {r:α} (h:∀k,g (k+1)=some r):Ev g r:=⟨1,fun n hn=>by
 obtain⟨m,rfl⟩:∃m,n=m+1:=⟨n-1,by omega⟩;exact h m⟩
theorem Ev.all {α:Type} {g:Nat→Option α} {r:α} (h:∀k,g k=some r):Ev g r:=⟨0,fun n _=>h n⟩
def toEntry (x:eR):ai:=(⟨x.f0,x.f1⟩:ai)
theorem Hq (l:List eR) (h:l.length≤1048576):Ev (fun k=>mM.f k l) (l.map toEntry):=by
 have hf:=FZ (fun k out i=>mM.l0 k l out i) l.length (fun i=>toEntry (l.getD i uc)) qU (fun i out r hi hl h=>?_) (fun out hl=>?_)
 ·rw[AM]at hf;refine Ev.congr (fun k=>?_) hf;simp only[mM.f];rw[if_pos (by omega),if_pos (by omega)];rfl
 ·refine Ev.step (fun k=>?_) h;simp only[mM.l0,NC.f,Option.bind_some,rB,Int.toNat_natCast];rw[if_pos (by omega),if_pos (by omega),if_pos (by omega),ca (n:=l.length) hi (by omega)];rfl
 ·refine Ev.ends (fun k=>?_);simp only[mM.l0];rw[if_neg (by omega)]
def Both {α:Type} (P:α→Prop) (f g:Nat→Option α):Prop:=∃r,P r∧Ev f r∧Ev g r
namespace Both
variable {α β:Type} {P:α→Prop} {f f' g g':Nat→Option α}
theorem step (h1:∀k,f (k+1)=f' k) (h2:∀k,g (k+1)=g' k) (h:Both P f' g'):Both P f g:=by
 obtain⟨r,hp,a,b⟩:=h;exact⟨r,hp,Ev.step h1 a,Ev.step h2 b⟩
theorem ret (r:α) (h:P r):Both P (fun _=>some r) (fun _=>some r):=⟨r,h,Ev.now r,Ev.now r⟩
theorem ite {c:Prop} [Decidable c] (h1:c→Both P f g) (h2:¬c→Both P f' g'):Both P (fun k=>if c then f k else f' k) (fun k=>if c then g k else g' k):=by
 by_cases h:c
 ·simpa only [if_pos h] using h1 h
 ·simpa only [if_neg h] using h2 h
theorem bind {Q:β→Prop} {p q:Nat→Option β} {F G:Nat→β→Option α} (h:Both Q p q) (k:∀b,Q b→Both P (fun n=>F n b) (fun n=>G n b)):Both P (fun n=>(p n).bind (F n)) (fun n=>(q n).bind (G n)):=by
 obtain⟨b,hq,h1,h2⟩:=h;obtain⟨r,hp,a,c⟩:=k b hq;exact⟨r,hp,Ev.bind h1 a,Ev.bind h2 c⟩
theorem mono {P':α→Prop} (h:Both P f g) (hi:∀r,P r→P' r):Both P' f g:=by
 obtain⟨r,hp,a,b⟩:=h;exact⟨r,hi r hp,a,b⟩
end Both
def Comes {α:Type} (P:α→Prop) (f:Nat→Option α):Prop:=∃r,P r∧Ev f r
namespace Comes
variable {α β:Type} {P:α→Prop} {f f':Nat→Option α}
theorem step (h1:∀k,f (k+1)=f' k) (h:Comes P f'):Comes P f:=by
 obtain⟨r,hp,a⟩:=h;exact⟨r,hp,Ev.step h1 a⟩
theorem ret (r:α) (h:P r):Comes P (fun _=>some r):=⟨r,h,Ev.now r⟩
theorem ite {c:Prop} [Decidable c] (h1:c→Comes P f) (h2:¬c→Comes P f'):Comes P (fun k=>if c then f k else f' k):=by
 by_cases h:c
 ·simpa only [if_pos h] using h1 h
 ·simpa only [if_neg h] using h2 h
theorem bind {Q:β→Prop} {p:Nat→Option β} {F:Nat→β→Option α} (h:Comes Q p) (k:∀b,Q b→Comes P (fun n=>F n b)):Comes P (fun n=>(p n).bind (F n)):=by
 obtain⟨b,hq,h1⟩:=h;obtain⟨r,hp,a⟩:=k b hq;exact⟨r,hp,Ev.bind h1 a⟩
theorem mono {P':α→Prop} (h:Comes P f) (hi:∀r,P r→P' r):Comes P' f:=by
 obtain⟨r,hp,a⟩:=h;exact⟨r,hi r hp,a⟩
theorem rounds (h:Comes P f):∃k r,f k=some r∧P r:=by
 obtain⟨r,hp,a⟩:=h;obtain⟨k,hk⟩:=a.rounds;exact⟨k,r,hk,hp⟩
theorem RM {f:Nat→Option Bool} (h:Comes (fun b=>b=true) f):∃k,f k=some true:=by
 obtain⟨k,r,hk,rfl⟩:=h.rounds;exact⟨k,hk⟩
theorem some_ (o:Option α) (r:α) (h:o=some r) (hp:P r):Comes P (fun _=>o):=⟨r,hp,Ev.all (fun _=>h)⟩
end Comes
theorem Hf {α:Type} (l:List α) (z:α) (B:α→Prop) (F:Nat→Int→Int→Option Int) (g:Nat→Int→Nat→Option Int) (hl:l.length≤9223372036854775806)
 (hF:∀(k:Nat) (a:Int) (i:Nat),i<l.length→0≤a→a≤1048576→F (k+1) a (i:Int)=(g i a k).bind fun t=>if t<0 then some (-1) else F k t ((i+1:Nat):Int))
 (hg:∀(i:Nat) (a:Int),i<l.length→0≤a→a≤1048576→Comes (fun t=>t≤a∧(0≤t→B (l.getD i z))) (g i a))
 (he:∀(k:Nat) (a:Int),F (k+1) a (l.length:Int)=some a) (a:Int) (ha:0≤a) (hb:a≤1048576):Comes (fun t=>t≤a∧(0≤t→∀x ∈ l,B x)) (fun k=>F k a 0):=by
 have key:∀(d i:Nat) (a:Int),i+d=l.length→0≤a→a≤1048576→Comes (fun t=>t≤a∧(0≤t→∀j,i≤j→j<l.length→B (l.getD j z))) (fun k=>F k a (i:Int)):=by
  intro d
  induction d with
  |zero=>
   intro i a hi ha hb;have:i=l.length:=by omega
   subst this;refine Comes.step (fun k=>he k a) (Comes.ret a ⟨Int.le_refl a,fun _ j h1 h2=>by omega⟩)
  |succ d ih=>
   intro i a hi ha hb;refine Comes.step (fun k=>hF k a i (by omega) ha hb) (Comes.bind (hg i a (by omega) ha hb) (fun t ht=>Comes.ite (fun _=>Comes.ret (-1) ⟨by omega,fun h=>by omega⟩) (fun hn=>?_)));refine(ih (i+1) t (by omega) (by omega) (by omega)).mono (fun r hr=>⟨by omega,fun h0 j h1 h2=>?_⟩);by_cases hj:j=i
   ·subst hj;exact ht.2 (by omega)
   ·exact hr.2 h0 j (by omega) h2
 refine(key l.length 0 a (by omega) ha hb).mono (fun r hr=>⟨hr.1,fun h0 x hx=>?_⟩);obtain⟨j,hj,rfl⟩:=List.mem_iff_getElem.1 hx;have:=hr.2 h0 j (by omega) hj
 rwa [List.getD_eq_getElem?_getD,List.getElem?_eq_getElem hj]at this
theorem ph {α:Type} {l:List α} {i:Nat} {z:α} (h:i<l.length):l.getD i z ∈ l:=by
 rw[List.getD_eq_getElem?_getD,List.getElem?_eq_getElem h];exact List.getElem_mem h
theorem RD (x:eR) (hx:x.f0.size≤maxLen) (a:Int) (ha:0≤a) (hb:a≤1048576):∃t,yw.f x.f0 x.f1 a=some t∧t≤a∧(0≤t→(x.f0.size:Int)≤a-t):=by
 unfold maxLen at hx;simp only[yw.f,Option.bind_some,wrap64]
 (repeat' split)<;>first|exact⟨_,rfl,by omega,by omega⟩|(simp only[Option.bind_some];(repeat' split)<;>exact⟨_,rfl,by omega,by omega⟩)
theorem He (l:List eR) (hx:l.length≤maxLen∧∀x ∈ l,(x.f0.size≤maxLen)) (a:Int) (ha:0≤a) (hb:a≤1048576):Comes (fun t=>t≤a∧(0≤t→(l.length:Int)≤a-t)) (fun k=>mo.f k l a):=by
 have hl:=hx.1;unfold maxLen at hl;have hw:wrap64 (a-(l.length:Int))=a-(l.length:Int):=fj (by omega) (by omega);simp only[mo.f,hw];refine Comes.ite (fun _=>Comes.ret (-1) ⟨by omega,fun h=>by omega⟩) (fun hn=>?_);refine(Hf l uc (fun _=>True) (fun k a i=>mo.l0 k l a i) (fun i a _=>yw.f (l.getD i uc).f0 (l.getD i uc).f1 a) (by omega) (fun k a i hi _ _=>?_) (fun i a hi ha hb=>?_) (fun k a=>?_) _ (by omega) (by omega)).mono (fun t ht=>⟨by omega,fun h=>by omega⟩)
 ·simp only[mo.l0,rB,Int.toNat_natCast];rw[if_pos (by omega),if_pos (by omega),ca (n:=l.length) hi (by omega)]
 ·obtain⟨t,h1,h2,h3⟩:=RD (l.getD i uc) (hx.2 _ (ph hi)) a ha hb;exact Comes.some_ _ t h1 ⟨h2,fun _=>trivial⟩
 ·simp only[mo.l0];rw[if_neg (by omega)]
theorem RI (xs:List Int) (hn:xs.length≤9223372036854775806):∀(d:Nat) (out:List Int) (i:Nat),i+d=xs.length→out.length=xs.length→out.take i=xs.take i →
 Ev (fun k=>fg.l0 k xs out (i:Int)) xs:=by
 intro d
 induction d with
 |zero=>
  intro out i hi hl ht;have e:out=xs:=by rw[tz ht (by omega),List.take_of_length_le (by omega)]
  refine Ev.step (f:=fun _=>some xs) (fun k=>?_) (Ev.now xs);simp only[fg.l0];rw[if_neg (by omega),e]
 |succ d ih=>
  intro out i hi hl ht;refine Ev.step (f:=fun k=>fg.l0 k xs (out.set i (xs.getD i 0)) ((i+1:Nat):Int)) (fun k=>?_) (ih _ _ (by omega) (by simp[hl]) ?_)
  ·simp only[fg.l0];rw[if_pos (by omega),if_pos (by omega),if_pos (by omega),ca (n:=xs.length) (by omega) (by omega),EG,Int.toNat_natCast]
  ·rw[tA _ _ _ (by omega),RH _ _ 0 (by omega),ht]
theorem Ln (xs:List Int) (hn:xs.length≤281474976710656):Ev (fun k=>fg.f k xs) xs:=by
 have h:=RI xs (by omega) xs.length (List.replicate xs.length 0) 0 (by omega) (by simp) (by simp);refine Ev.congr (fun k=>?_) h;simp only[fg.f];rw[if_pos (by omega),if_pos (by omega)];rfl
theorem PD (x:ai):DH.f x.f0 x.f1 x.f0 x.f1=some true:=by
 simp[DH.f]
theorem FY (l:List ai) (h:l.length≤9223372036854775806):Ev (fun k=>jP.f k l l) true:=by
 refine Ev.congr (fun k=>?_) (we (fun i k=>jP.l0 k l l (i:Int)) l.length true (fun i hi h=>?_) ?_)
 ·simp only[jP.f];rw[if_pos trivial];rfl
 ·refine Ev.step (fun k=>?_) h;simp only[jP.l0,PD,Option.bind_some];rw[if_pos (by omega),if_pos (by omega),if_pos (by omega),ca (n:=l.length) hi (by omega)];rfl
 ·refine Ev.ends (fun k=>?_);simp only[jP.l0];rw[if_neg (by omega)]
theorem PC (xs:List Int) (hn:xs.length≤9223372036854775806):∀(d i:Nat),i+d=xs.length→Ev (fun k=>lg.l0 k xs xs (i:Int)) true:=by
 intro d
 induction d with
 |zero=>
  intro i hi;refine Ev.step (f:=fun _=>some true) (fun k=>?_) (Ev.now true);simp only[lg.l0];rw[if_neg (by omega)]
 |succ d ih=>
  intro i hi;refine Ev.step (f:=fun k=>lg.l0 k xs xs ((i+1:Nat):Int)) (fun k=>?_) (ih _ (by omega));simp only[lg.l0];rw[if_pos (by omega),if_pos (by omega),if_pos (by omega),if_pos trivial,ca (n:=xs.length) (by omega) (by omega)]
theorem J8 (xs:List Int) (hn:xs.length≤9223372036854775806):Ev (fun k=>lg.f k xs xs) true:=by
 refine Ev.congr (fun k=>?_) (PC xs hn xs.length 0 (by omega));simp only[lg.f];rw[if_pos trivial];rfl
theorem PE (l:List ak) (h:l.length≤1048576) (hd:∀x ∈ l,x.f1.length≤4194304):Ev (fun k=>lh.f k l l) true:=by
 refine Ev.congr (fun k=>?_) (we (fun i k=>lh.l0 k l l (i:Int)) l.length true (fun i hi h=>?_) ?_)
 ·simp only[lh.f];rw[if_pos trivial];rfl
 ·have hm:l.getD i z80 ∈ l:=ph hi;obtain⟨K,hK⟩:=J8 (l.getD i z80).f1 (by have:=hd _ hm;omega);refine Ev.round ⟨K,fun k hk=>?_⟩ h;have t:=hK k hk;dsimp only at t;simp only[lh.l0,KR.f,aa,Int.toNat_natCast,t,Option.bind_some,if_true];rw[if_pos (by omega),if_pos (by omega),if_pos (by omega),ca (n:=l.length) hi (by omega)]
 ·refine Ev.ends (fun k=>?_);simp only[lh.l0];rw[if_neg (by omega)]
theorem FX (a:List ak) (b c:List ai) (n:Int) (h0:a.length≤1048576) (hd:∀x ∈ a,x.f1.length≤4194304) (h1:b.length≤1048576) (h2:c.length≤1048576):Ev (fun k=>cW.f k a b c n a b c n) true:=by
 obtain⟨K0,e0⟩:=PE a h0 hd;obtain⟨K1,e1⟩:=FY b (by omega);obtain⟨K2,e2⟩:=FY c (by omega);dsimp only at e0 e1 e2;exact⟨K0+K1+K2,fun k hk=>by simp only[cW.f];rw[e0 k (by omega),Option.bind_some,if_pos rfl,e1 k (by omega),Option.bind_some,if_pos rfl,e2 k (by omega),Option.bind_some,if_pos rfl,if_pos trivial]⟩
def hZ (x:ib):ak:=(⟨x.f0,x.f1,x.f2⟩:ak)
theorem RK (l:List ib) (h:l.length≤1048576) (hd:∀x ∈ l,x.f1.length≤1048576):Ev (fun k=>n8.f k l) (l.map hZ):=by
 have hf:=FZ (fun k out i=>n8.l0 k l out i) l.length (fun i=>hZ (l.getD i z93)) z80 (fun i out r hi hl h=>?_) (fun out hl=>?_)
 ·rw[AM]at hf;refine Ev.congr (fun k=>?_) hf;simp only[n8.f];rw[if_pos (by omega),if_pos (by omega)];rfl
 ·have hm:l.getD i z93 ∈ l:=ph hi;obtain⟨K,hK⟩:=Ln (l.getD i z93).f1 (by have:=hd _ hm;omega);refine Ev.round ⟨K,fun k hk=>?_⟩ h;have t:=hK k hk;dsimp only at t;simp only[n8.l0,ND.f,nA,Int.toNat_natCast];rw[if_pos (by omega),if_pos (by omega),t,Option.bind_some,Option.bind_some,if_pos (by omega),ca (n:=l.length) hi (by omega)];rfl
 ·refine Ev.ends (fun k=>?_);simp only[n8.l0];rw[if_neg (by omega)]
theorem RJ (x:pG) (h0:x.f0.length≤1048576) (hd:∀y ∈ x.f0,y.f1.length≤1048576) (h1:x.f1.length≤1048576) (h2:x.f2.length≤1048576):Ev (fun k=>fI.f k x.f0 x.f1 x.f2 x.f3) (x.f0.map hZ,x.f1.map toEntry,x.f2.map toEntry,x.f3):=by
 obtain⟨K0,e0⟩:=RK x.f0 h0 hd;obtain⟨K1,e1⟩:=Hq x.f1 h1;obtain⟨K2,e2⟩:=Hq x.f2 h2;dsimp only at e0 e1 e2;exact⟨K0+K1+K2,fun k hk=>by simp only[fI.f];rw[e0 k (by omega),Option.bind_some,e1 k (by omega),Option.bind_some,e2 k (by omega),Option.bind_some]⟩
theorem RF (x:ib) (hx:x.f1.length≤maxLen) (a:Int) (ha:0≤a) (hb:a≤1048576):∃t,yx.f x.f0 x.f1 x.f2 a=some t∧t≤a∧(0≤t→(x.f1.length:Int)≤a-t):=by
 unfold maxLen at hx;simp only[yx.f,IT.f,wrap64]
 (repeat' split)<;>first|exact⟨_,rfl,by omega,by omega⟩|(simp only[Option.bind_some];(repeat' split)<;>exact⟨_,rfl,by omega,by omega⟩)
theorem RE (l:List ib) (hx:l.length≤maxLen∧∀x ∈ l,x.f1.length≤maxLen) (a:Int) (ha:0≤a) (hb:a≤1048576):Comes (fun t=>t≤a∧(0≤t→(l.length:Int)≤a-t∧∀x ∈ l,x.f1.length≤1048576)) (fun k=>nS.f k l a):=by
 have hl:=hx.1;unfold maxLen at hl;have hw:wrap64 (a-(l.length:Int))=a-(l.length:Int):=fj (by omega) (by omega);simp only[nS.f,hw];refine Comes.ite (fun _=>Comes.ret (-1) ⟨by omega,fun h=>by omega⟩) (fun hn=>?_);refine(Hf l z93 (fun x=>x.f1.length≤1048576) (fun k a i=>nS.l0 k l a i) (fun i a _=>yx.f (l.getD i z93).f0 (l.getD i z93).f1 (l.getD i z93).f2 a) (by omega) (fun k a i hi _ _=>?_) (fun i a hi ha hb=>?_) (fun k a=>?_) _ (by omega) (by omega)).mono (fun t ht=>⟨by omega,fun h=>⟨by omega,ht.2 h⟩⟩)
 ·simp only[nS.l0,nA,Int.toNat_natCast];rw[if_pos (by omega),if_pos (by omega),ca (n:=l.length) hi (by omega)]
 ·obtain⟨t,h1,h2,h3⟩:=RF (l.getD i z93) (hx.2 _ (ph hi)) a ha hb;exact Comes.some_ _ t h1 ⟨h2,fun h0=>by have:=h3 h0;omega⟩
 ·simp only[nS.l0];rw[if_neg (by omega)]
theorem RC (x:pG) (h0:x.f0.length≤maxLen∧∀y ∈ x.f0,y.f1.length≤maxLen) (h1:x.f1.length≤maxLen∧∀y ∈ x.f1,y.f0.size≤maxLen) (h2:x.f2.length≤maxLen∧∀y ∈ x.f2,y.f0.size≤maxLen) (a:Int) (ha:0≤a) (hb:a≤1048576) :
 Comes (fun t=>t≤a∧(0≤t→x.f0.length≤1048576∧(∀y ∈ x.f0,y.f1.length≤1048576)∧x.f1.length≤1048576∧x.f2.length≤1048576)) (fun k=>rz.f k x.f0 x.f1 x.f2 x.f3 a):=by
 simp only[rz.f];refine Comes.bind (RE x.f0 h0 a ha hb) (fun t ht=>Comes.ite (fun _=>Comes.ret _ ⟨by omega,fun h=>by omega⟩) (fun hn=>?_));have r0:=ht.2 (by omega);refine Comes.bind (He x.f1 h1 t (by omega) (by omega)) (fun u hu=>Comes.ite (fun _=>Comes.ret _ ⟨by omega,fun h=>by omega⟩) (fun Tu=>?_));have r1:=hu.2 (by omega);refine Comes.bind (He x.f2 h2 u (by omega) (by omega)) (fun v hv=>Comes.ite (fun _=>Comes.ret _ ⟨by omega,fun h=>by omega⟩) (fun hn3=>?_));have r2:=hv.2 (by omega);exact Comes.ret v ⟨by omega,fun _=>⟨by omega,r0.2,by omega,by omega⟩⟩
def hO (a:Int) (n:Nat):List Int:=(List.range n).map fun (j:Nat)=>(a+(j:Int)) % 256
theorem GN (a:Int) (n:Nat):(hO a n).length=n:=by simp[hO]
theorem Qx (a:Int) (n:Nat):hO a (n+1)=hO a n++[(a+(n:Int)) % 256]:=by simp[hO,List.range_succ]
theorem Qw (a:Int) (n i:Nat) (h:i<n):(hO a n).getD i 0=(a+(i:Int)) % 256:=by
 simp[hO,List.getD_eq_getElem?_getD,h]
theorem Qy (a:Int) (n:Nat) (ha:0≤a) (hb:a+n≤9223372036854775806):∀(d:Nat) (l:List Int) (i:Nat),i+d=n→l.length=n→l.take i=hO a i →
 Ev (fun k=>kF.l0 k l (a+(i:Int)) (i:Int)) (a+(n:Int),hO a n):=by
 intro d
 induction d with
 |zero=>
  intro l i hi hl ht;have hin:i=n:=by omega
  subst hin;have e:l=hO a i:=tz ht hl;refine Ev.step (f:=fun _=>some (a+(i:Int),hO a i)) (fun k=>?_) (Ev.now _);simp only[kF.l0];rw[if_neg (by omega),e]
 |succ d ih=>
  intro l i hi hl ht;refine Ev.step (f:=fun k=>kF.l0 k (l.set i ((a+(i:Int)) % 256)) (a+((i+1:Nat):Int)) ((i+1:Nat):Int)) (fun k=>?_) (ih _ _ (by omega) (by simp[hl]) ?_)
  ·simp only[kF.l0];rw[if_pos (by omega),if_pos (by omega),ca (n:=n) (by omega) (by omega),Int.toNat_natCast,fj (i:=a+(i:Int)+1) (by omega) (by omega)];congr 1;omega
  ·rw[tA _ _ _ (by omega),Qx,ht]
theorem KS (l:List Int) (a:Int) (ha:0≤a) (hb:a+l.length≤9223372036854775806):Ev (fun k=>kF.f k l a) (a+(l.length:Int),hO a l.length):=by
 refine Ev.congr (fun k=>?_) (Qy a l.length ha hb l.length l 0 (by omega) rfl rfl);simp only[kF.f];congr 1;simp
def tv:Nat→Int→ByteArray→ByteArray
 |0,_,s=>s
 |d+1,k,s=>if k>0 then tv d (k / 10) (strOfNums [(48+k % 10) % 256]++s) else s
def AD (k:Int):ByteArray:=if k≤0 then ⟨#[109,48]⟩ else ⟨#[109]⟩++tv 20 k ⟨#[]⟩
theorem QB:∀(d:Nat) (k:Int) (s:ByteArray),k<10 ^ d→k≤9223372036854775807→s.size+d≤9223372036854775806→Ev (fun q=>lU.l0 q k s) (⟨#[109]⟩++tv d k s):=by
 intro d
 induction d with
 |zero=>
  intro k s hk Qf hs;refine Ev.ends (fun q=>?_);simp only[lU.l0];rw[if_neg (by omega),if_pos (by omega)];rfl
 |succ d ih=>
  intro k s hk Qf hs;by_cases h0:k>0
  ·have hp:(10:Int) ^ (d+1)=10 ^ d*10:=Int.pow_succ ..;have hsz:(strOfNums [(48+k % 10) % 256]++s).size=1+s.size:=by rw[ByteArray.size_append];rfl
   have hm:Int.tmod k 10=k % 10:=Int.tmod_eq_emod_of_nonneg (by omega);have hd:Int.tdiv k 10=k / 10:=Int.tdiv_eq_ediv_of_nonneg (by omega);have:=ih (k / 10) (strOfNums [(48+k % 10) % 256]++s) (by omega) (by omega) (by omega);unfold tv;rw[if_pos h0];refine Ev.step (fun q=>?_) this;simp only[lU.l0,Option.bind_some];rw[if_pos h0,hm,hd,fj (i:=48+k % 10) (by omega) (by omega),fj (i:=k / 10) (by omega) (by omega),if_pos (by rw[←ByteArray.size_append,hsz];omega)]
  ·unfold tv;rw[if_neg h0];refine Ev.ends (fun q=>?_);simp only[lU.l0];rw[if_neg h0,if_pos (by omega)]
theorem GQ (k:Int) (h:k≤9223372036854775807):Ev (fun q=>lU.f q k) (AD k):=by
 unfold AD;by_cases h0:k≤0
 ·rw[if_pos h0];exact Ev.all (fun q=>by simp only[lU.f];rw[if_pos h0])
 ·rw[if_neg h0];refine Ev.congr (fun q=>?_) (QB 20 k ⟨#[]⟩ (by omega) h (show (0:Nat)+20≤9223372036854775806 by omega));simp only[lU.f];rw[if_neg h0]
theorem PL {α:Type} {l:List α} {i:Nat} (x z:α) (h:i<l.length):(l.set i x).getD i z=x:=by
 rw[List.getD_eq_getElem?_getD,List.getElem?_set_self h];rfl
def wb (k:Int):ai:=(⟨AD (k),(k+1)⟩:ai)
def n9 (a:Int) (n:Nat):List ai:=(List.range n).map fun (i:Nat)=>wb (a+2*(i:Int))
theorem GR (a:Int) (n:Nat):(n9 a n).length=n:=by simp[n9]
theorem GP (l:List ai) (a:Int) (ha:0≤a) (hb:a+2*(l.length:Int)≤4611686018427387904):Ev (fun k=>nR.f k l a) (a+2*(l.length:Int),n9 a l.length):=by
 have hm:=QC (fun k out s i=>nR.l0 k out s i) l.length (fun i=>wb (a+2*(i:Int))) (fun i=>a+2*(i:Int)) (fun i out r hi hl h=>?_) (fun out hl=>?_) l rfl
 ·refine Ev.congr (fun k=>?_) hm;simp only[nR.f];congr 1;simp
 ·(try dsimp only at h ⊢)
  obtain⟨K0,h0⟩:=GQ (a+2*(i:Int)) (by omega);refine Ev.round ⟨0+K0,fun k hk=>?_⟩ h;have t0:=h0 k (by omega);dsimp only at t0;have e1:((i:Int)<(out.length:Int))=True:=eq_true (by omega);have e2:(0≤(i:Int))=True:=eq_true (by omega);have ew:wrap64 ((i:Int)+1)=((i+1:Nat):Int):=ca (n:=l.length) hi (by omega);have w1:wrap64 (a+2*(i:Int)+1)=a+2*(i:Int)+1:=fj (by omega) (by omega);have w2:wrap64 (a+2*(i:Int)+2)=a+2*(i:Int)+2:=fj (by omega) (by omega);have Ad:a+2*(i:Int)+1+1=a+2*(i:Int)+2:=by omega
  have ae:a+2*(i:Int)+2=a+2*((i+1:Nat):Int):=by omega
  simp only[nR.l0,e1,e2,if_true,t0,Option.bind_some,w1,w2,Ad,ew,aq,Int.toNat_natCast,List.set_set,PL _ _ (show i<out.length by omega)]
  (rw[ae])<;>rfl
 ·refine Ev.ends (fun k=>?_);simp only[nR.l0];rw[if_neg (by omega)]
def cR (l:List ak) (a:Int):Nat→Int
 |0=>a
 |i+1=>cR l a i+2+((aa l (i:Int)).f1.length:Int)
def pn (l:List ak) (a:Int) (i:Nat):ak:=(⟨cR l a i,hO (cR l a i+1) (aa l (i:Int)).f1.length,cR l a i+1+((aa l (i:Int)).f1.length:Int)⟩:ak)
def po (l:List ak) (a:Int):List ak:=(List.range l.length).map (pn l a)
theorem GS (l:List ak) (a:Int):(po l a).length=l.length:=by simp[po]
theorem AN {l:List ak} {i:Nat} (h:i<l.length):aa l (i:Int) ∈ l:=ph h
theorem rY (l:List ak) (hd:∀x ∈ l,x.f1.length≤4194304) (a:Int):∀i,i≤l.length→a≤cR l a i∧cR l a i≤a+(i:Int)*4194306
 |0,_=>by simp[cR]
 |i+1,h=>by
  have h1:=rY l hd a i (by omega);have h2:=hd _ (AN (show i<l.length by omega));simp only[cR];omega
theorem QD {β σ:Type} (L:Nat→List β→σ→Int→Option (σ × List β)) (l:List β) (z:β) (g:Nat→β) (st:Nat→σ)
 (hs:∀(i:Nat) (out:List β) (r:σ × List β),i<l.length→out.length=l.length→out.getD i z=l.getD i z→Ev (fun k=>L k (out.set i (g i)) (st (i+1)) ((i+1:Nat):Int)) r→Ev (fun k=>L k out (st i) (i:Int)) r)
 (he:∀out:List β,out.length=l.length→Ev (fun k=>L k out (st l.length) (l.length:Int)) (st l.length,out)):Ev (fun k=>L k l (st 0) 0) (st l.length,(List.range l.length).map g):=by
 have key:∀(d i:Nat) (out:List β),i+d=l.length→out.length=l.length→out.take i=(List.range i).map g→(∀j,i≤j→out.getD j z=l.getD j z)→Ev (fun k=>L k out (st i) (i:Int)) (st l.length,(List.range l.length).map g):=by
  intro d
  induction d with
  |zero=>
   intro i out hi hl ht _;have hin:i=l.length:=by omega
   subst hin;have e:=tz ht hl;rw[←e];exact he out hl
  |succ d ih=>
   intro i out hi hl ht hg;refine hs i out _ (by omega) hl (hg i (Nat.le_refl _)) (ih (i+1) _ (by omega) (by simp[hl]) ?_ (fun j hj=>?_))
   ·rw[tA _ _ _ (by omega),ht,List.range_succ,List.map_append];rfl
   ·rw[←hg j (by omega),List.getD_eq_getElem?_getD,List.getD_eq_getElem?_getD,List.getElem?_set_ne (by omega)]
 exact key l.length 0 l (by omega) rfl (by simp) (fun _ _=>rfl)
theorem QA (l:List ak) (a:Int) (ha:0≤a) (hb:a≤4611686018427387904) (h:l.length≤1048576) (hd:∀x ∈ l,x.f1.length≤4194304):Ev (fun k=>pk.f k l a) (cR l a l.length,po l a):=by
 have hle:=rY l hd a;have hm:=QD (fun k out s i=>pk.l0 k out s i) l z80 (pn l a) (cR l a) (fun i out r hi hl hg h=>?_) (fun out hl=>?_)
 ·refine Ev.congr (fun k=>?_) hm;simp only[pk.f];rfl
 ·have hrd:aa out (i:Int)=aa l (i:Int):=hg;have b1:=hle i (by omega);have b2:=hd _ (AN hi);obtain⟨K0,h0⟩:=KS (aa l (i:Int)).f1 (cR l a i+1) (by omega) (by omega);refine Ev.round ⟨K0,fun k hk=>?_⟩ h;have t0:=h0 k (by omega);dsimp only at t0;simp only[pk.l0,hrd,Int.toNat_natCast];rw[if_pos (by omega),if_pos (by omega),fj (i:=cR l a i+1) (by omega) (by omega),t0,Option.bind_some,ca (n:=l.length) hi (by omega),fj (by simp only[];omega) (by simp only[];omega)];simp only[pn,cR];congr 1;omega
 ·refine Ev.ends (fun k=>?_);simp only[pk.l0];rw[if_neg (by omega)]
theorem GO (a:List ak) (b c:List ai) (n:Int) (h0:a.length≤1048576) (hd:∀x ∈ a,x.f1.length≤4194304) (h1:b.length≤1048576) (h2:c.length≤1048576) :
 0≤cR a 1 a.length+2*(b.length:Int)+2*(c.length:Int)∧Ev (fun k=>kG.f k a b c n 1) (cR a 1 a.length+2*(b.length:Int)+2*(c.length:Int),po a 1,n9 (cR a 1 a.length) b.length,n9 (cR a 1 a.length+2*(b.length:Int)) c.length):=by
 have l0:=(rY a hd 1 a.length (Nat.le_refl _));obtain⟨K0,e0⟩:=QA a 1 (by omega) (by omega) h0 hd;obtain⟨K1,e1⟩:=GP b (cR a 1 a.length) (by omega) (by omega);obtain⟨K2,e2⟩:=GP c (cR a 1 a.length+2*(b.length:Int)) (by omega) (by omega);dsimp only at e0 e1 e2;exact⟨by omega,K0+K1+K2,fun k hk=>by simp only[kG.f];rw[e0 k (by omega),Option.bind_some,e1 k (by omega),Option.bind_some,e2 k (by omega),Option.bind_some]⟩
theorem P2 (a:Int) (n:Nat) (ha:0≤a) (hb:a+n≤9223372036854775806):∀(d i:Nat),i+d=n→Ev (fun k=>mL.l0 k (hO a n) (a+(i:Int)) (i:Int)) (a+(n:Int)):=by
 intro d
 induction d with
 |zero=>
  intro i hi;have hin:i=n:=by omega
  subst hin;refine Ev.step (f:=fun _=>some (a+(i:Int))) (fun k=>?_) (Ev.now _);simp only[mL.l0,GN];rw[if_neg (by omega)]
 |succ d ih=>
  intro i hi;refine Ev.step (f:=fun k=>mL.l0 k (hO a n) (a+((i+1:Nat):Int)) ((i+1:Nat):Int)) (fun k=>?_) (ih _ (by omega));simp only[mL.l0,GN];rw[if_pos (by omega),if_pos (by omega),EG,if_pos (Qw a n i (by omega)),ca (n:=n) (by omega) (by omega),fj (i:=a+(i:Int)+1) (by omega) (by omega)];congr 1;omega
theorem P1 (a:Int) (n:Nat) (ha:0≤a) (hb:a+n≤9223372036854775806):Ev (fun k=>mL.f k (hO a n) a) (a+(n:Int)):=by
 refine Ev.congr (fun k=>?_) (P2 a n ha hb n 0 (by omega));simp only[mL.f];congr 1;simp
theorem Gf (a:Int) (n:Nat) (ha:0≤a) (hb:a+2*(n:Int)≤4611686018427387904):Ev (fun k=>jQ.f k (n9 a n) a) (a+2*(n:Int)):=by
 refine Ev.congr (fun k=>?_) (we (fun i k=>jQ.l0 k (n9 a n) (a+2*(i:Int)) (i:Int)) n (a+2*(n:Int)) (fun i hi h=>?_) ?_)
 ·simp only[jQ.f];congr 1;simp
 ·(try dsimp only at h ⊢)
  obtain⟨K0,h0⟩:=GQ (a+2*(i:Int)) (by omega);refine Ev.round ⟨0+K0,fun k hk=>?_⟩ h;have t0:=h0 k (by omega);dsimp only at t0;have e1:((i:Int)<(n:Int))=True:=eq_true (by omega);have e2:(0≤(i:Int))=True:=eq_true (by omega);have ew:wrap64 ((i:Int)+1)=((i+1:Nat):Int):=ca (n:=n) hi (by omega);have eg:(n9 a n).getD i qU=wb (a+2*(i:Int)):=Ha n i _ _ hi;have w1:wrap64 (a+2*(i:Int)+1)=a+2*(i:Int)+1:=fj (by omega) (by omega);have w2:wrap64 (a+2*(i:Int)+2)=a+2*(i:Int)+2:=fj (by omega) (by omega);have Ad:a+2*(i:Int)+1+1=a+2*(i:Int)+2:=by omega
  have ae:a+2*(i:Int)+2=a+2*((i+1:Nat):Int):=by omega
  simp only[jQ.l0,GR,e1,e2,if_true,t0,Option.bind_some,w1,w2,Ad,ew,aq,Int.toNat_natCast,eg,wb,bne_self_eq_false,Bool.false_eq_true,if_false]
  first|((rw[ae])<;>rfl)|(simp only[beq_self_eq_true,bne_self_eq_false,Bool.false_eq_true,if_false,if_true,ae])
 ·refine Ev.ends (fun k=>?_);simp only[jQ.l0,GR];rw[if_neg (by omega)]
theorem P3 (l:List ak) (a:Int) (ha:0≤a) (hb:a≤4611686018427387904) (h:l.length≤1048576) (hd:∀x ∈ l,x.f1.length≤4194304):Ev (fun k=>nQ.f k (po l a) a) (cR l a l.length):=by
 have hle:=rY l hd a;refine Ev.congr (fun k=>?_) (we (fun i k=>nQ.l0 k (po l a) (cR l a i) (i:Int)) l.length (cR l a l.length) (fun i hi h=>?_) ?_)
 ·simp only[nQ.f];rfl
 ·have hrd:aa (po l a) (i:Int)=pn l a i:=Ha l.length i _ _ hi;have b1:=hle i (by omega);have b2:=hd _ (AN hi);obtain⟨K0,h0⟩:=P1 (cR l a i+1) (aa l (i:Int)).f1.length (by omega) (by omega);refine Ev.round ⟨K0,fun k hk=>?_⟩ h;have t0:=h0 k (by omega);dsimp only at t0
  have t1:mL.f k (pn l a i).f1 (wrap64 (cR l a i+1))=some (cR l a i+1+((aa l (i:Int)).f1.length:Int)):=by
   rw[fj (i:=cR l a i+1) (by omega) (by omega)];exact t0
  simp only[nQ.l0,GS,hrd];rw[if_pos (by omega),if_pos (by omega),if_pos (show (pn l a i).f0=cR l a i from rfl),t1,Option.bind_some,if_neg (by omega),if_pos (show (pn l a i).f2=cR l a i+1+((aa l (i:Int)).f1.length:Int) from rfl),ca (n:=l.length) hi (by omega),fj (by omega) (by omega)];simp only[cR];congr 1;omega
 ·refine Ev.ends (fun k=>?_);simp only[nQ.l0,GS];rw[if_neg (by omega)]
theorem Qz (a:List ak) (b c:List ai) (n:Int) (h0:a.length≤1048576) (hd:∀x ∈ a,x.f1.length≤4194304) (h1:b.length≤1048576) (h2:c.length≤1048576) :
 ∃(m:Int) (a':List ak) (b' c':List ai),0≤m∧Ev (fun k=>kG.f k a b c n 1) (m,a',b',c')∧Ev (fun k=>pM.f k a' b' c' n 1) m:=by
 have l0:=(rY a hd 1 a.length (Nat.le_refl _));obtain⟨K3,e3⟩:=P3 a 1 (by omega) (by omega) h0 hd;obtain⟨K4,e4⟩:=Gf (cR a 1 a.length) b.length (by omega) (by omega);obtain⟨K5,e5⟩:=Gf (cR a 1 a.length+2*(b.length:Int)) c.length (by omega) (by omega);dsimp only at e3 e4 e5;have hm:=GO a b c n h0 hd h1 h2;exact⟨_,_,_,_,hm.1,hm.2,K3+K4+K5,fun k hk=>by simp only[pM.f];rw[e3 k (by omega),Option.bind_some,if_neg (by omega),e4 k (by omega),Option.bind_some,if_neg (by omega),e5 k (by omega),Option.bind_some,if_neg (by omega)]⟩
def cm {ρ:Type} (p:Nat→Bool) (stop:Nat→ρ) (e:ρ):Nat→Nat→ρ
 |_,0=>e
 |i,d+1=>if p i=true then stop i else cm p stop e (i+1) d
theorem jN {ρ:Type} (g:Nat→Nat→Option ρ) (n:Nat) (p:Nat→Bool) (stop:Nat→ρ) (e:ρ)
 (hs:∀(i:Nat) (r:ρ),i<n→p i=false→Ev (g (i+1)) r→Ev (g i) r) (ht:∀i,i<n→p i=true→Ev (g i) (stop i)) (he:Ev (g n) e):Ev (g 0) (cm p stop e 0 n):=by
 have key:∀(d i:Nat),i+d=n→Ev (g i) (cm p stop e i d):=by
  intro d
  induction d with
  |zero=>
   intro i hi;have:i=n:=by omega
   subst this;exact he
  |succ d ih=>
   intro i hi;simp only[cm];by_cases h:p i=true
   ·rw[if_pos h];exact ht i (by omega) h
   ·rw[if_neg h];exact hs i _ (by omega) (by simpa using h) (ih (i+1) (by omega))
 exact key n 0 (by omega)
theorem F0 {ρ:Type} {p q:Nat→Bool} {stop:Nat→ρ} {e:ρ}:∀(d i:Nat),(∀j,i≤j→j<i+d→p j=q j)→cm p stop e i d=cm q stop e i d
 |0,_,_=>rfl
 |d+1,i,h=>by
  simp only[cm];rw[h i (by omega) (by omega),F0 d (i+1) (fun j h1 h2=>h j (by omega) (by omega))]
theorem nJ {e:Bool} {p:Nat→Bool}:∀(d i:Nat),cm p (fun _=>false) e i d=(!cm p (fun _=>true) false i d&&e)
 |0,_=>by simp[cm]
 |d+1,i=>by
  simp only[cm];by_cases h:p i=true
  ·rw[if_pos h,if_pos h];rfl
  ·rw[if_neg h,if_neg h];exact nJ d (i+1)
theorem xW {p:Nat→Bool}:∀(d i:Nat),cm p (fun _=>true) false i d=false→∀j,i≤j→j<i+d→p j=false
 |0,i,_,j,h1,h2=>by omega
 |d+1,i,h,j,h1,h2=>by
  simp only[cm]at h;by_cases hp:p i=true
  ·rw[if_pos hp]at h;cases h
  ·rw[if_neg hp]at h;by_cases hj:j=i
   ·subst hj;simpa using hp
   ·exact xW d (i+1) h j (by omega) (by omega)
theorem Ar {p:Nat→Bool}:∀(d i:Nat),cm p (fun _=>true) false i d=true→∃j,i≤j∧j<i+d∧p j=true
 |0,_,h=>by simp[cm]at h
 |d+1,i,h=>by
  simp only[cm]at h;by_cases hp:p i=true
  ·exact⟨i,by omega,by omega,hp⟩
  ·rw[if_neg hp]at h;obtain⟨j,h1,h2,h3⟩:=Ar d (i+1) h;exact⟨j,by omega,by omega,h3⟩
theorem zk {l:List ai} {i:Nat} (h:i<l.length):aq l (i:Int) ∈ l:=ph h
theorem rZ {l:List ak} {i:Nat} (h:i<l.length):aa l (i:Int) ∈ l:=ph h
theorem Rx (l:List ai) (i j:Nat) (h:j<i):aq (l.take i) (j:Int)=aq l (j:Int):=by
 simp only[aq,Int.toNat_natCast];rw[List.getD_eq_getElem?_getD,List.getD_eq_getElem?_getD,List.getElem?_take,if_pos h]
def named (l:List ai) (id:Int):Bool:=cm (fun i=>decide ((aq l (i:Int)).f1=id)) (fun _=>true) false 0 l.length
theorem wa (l:List ai) (h:l.length≤1048576) (id:Int):Ev (fun k=>fS.f k l id) (named l id):=by
 refine Ev.congr (fun k=>?_) (jN (fun i k=>fS.l0 k l id (i:Int)) l.length _ _ _ (fun i r hi hp h=>?_) (fun i hi hp=>?_) ?_)
 ·simp only[fS.f];rfl
 ·refine Ev.step (fun k=>?_) h;simp only[fS.l0];rw[if_pos (by omega),if_pos (by omega),if_neg (by simpa using hp),ca (n:=l.length) hi (by omega)]
 ·refine Ev.ends (fun k=>?_);simp only[fS.l0];rw[if_pos (by omega),if_pos (by omega),if_pos (by simpa using hp)]
 ·refine Ev.ends (fun k=>?_);simp only[fS.l0];rw[if_neg (by omega)]
theorem pj (l:List ai) (h:l.length≤1048576) (id:Int):Ev (fun k=>ga.f k l id) (named l id):=by
 refine Ev.congr (fun k=>?_) (jN (fun i k=>ga.l0 k id l (l.length:Int) (i:Int)) l.length _ _ _ (fun i r hi hp h=>?_) (fun i hi hp=>?_) ?_)
 ·simp only[ga.f];rfl
 ·refine Ev.step (fun k=>?_) h;simp only[ga.l0];rw[if_pos (by omega),if_pos (by omega),if_pos (by omega),if_neg (by simpa using hp),ca (n:=l.length) hi (by omega)]
 ·refine Ev.ends (fun k=>?_);simp only[ga.l0];rw[if_pos (by omega),if_pos (by omega),if_pos (by omega),if_pos (by simpa using hp)]
 ·refine Ev.ends (fun k=>?_);simp only[ga.l0];rw[if_neg (by omega)]
theorem GU {l:List ai} {id:Int} (h:named l id=true):id ∈ l.map (fun e=>e.f1):=by
 obtain⟨j,_,h2,h3⟩:=Ar _ _ h;simp only[decide_eq_true_eq]at h3;rw[←h3];exact List.mem_map.2 ⟨_,zk (by omega),rfl⟩
def jJ (l:List ak) (id:Int):Int:=cm (fun i=>decide ((aa l (i:Int)).f0=id)) (fun i=>(i:Int)) (-1) 0 l.length
theorem KQ (l:List ak) (b c:List ai) (n:Int) (h:l.length≤1048576) (id:Int):Ev (fun k=>lV.f k l b c n id) (jJ l id):=by
 refine Ev.congr (fun k=>?_) (jN (fun i k=>lV.l0 k id (i:Int) l b c n) l.length _ _ _ (fun i r hi hp h=>?_) (fun i hi hp=>?_) ?_)
 ·simp only[lV.f];rfl
 ·refine Ev.step (fun k=>?_) h;simp only[lV.l0];rw[if_pos (by omega),if_pos (by omega),if_neg (by simpa using hp),ca (n:=l.length) hi (by omega)]
 ·refine Ev.ends (fun k=>?_);simp only[lV.l0];rw[if_pos (by omega),if_pos (by omega),if_pos (by simpa using hp)]
 ·refine Ev.ends (fun k=>?_);simp only[lV.l0];rw[if_neg (by omega)]
theorem KN (l:List ak) (b c:List ai) (n:Int) (h:l.length≤1048576) (id:Int):Ev (fun k=>l9.f k l b c n id) (jJ l id):=by
 refine Ev.congr (fun k=>?_) (jN (fun i k=>l9.l0 k id l (l.length:Int) (i:Int)) l.length _ _ _ (fun i r hi hp h=>?_) (fun i hi hp=>?_) ?_)
 ·simp only[l9.f];rfl
 ·refine Ev.step (fun k=>?_) h;simp only[l9.l0];rw[if_pos (by omega),if_pos (by omega),if_pos (by omega),if_neg (by simpa using hp),ca (n:=l.length) hi (by omega)]
 ·refine Ev.ends (fun k=>?_);simp only[l9.l0];rw[if_pos (by omega),if_pos (by omega),if_pos (by omega),if_pos (by simpa using hp)]
 ·refine Ev.ends (fun k=>?_);simp only[l9.l0];rw[if_neg (by omega)]
theorem Pj (s:ByteArray) (i:Int):0≤bt s i∧bt s i≤255:=by
 unfold bt;split
 ·have:=UInt8.toNat_lt (s[i.toNat]'(by assumption));omega
 ·omega
def pa (c:Int):Bool:=decide (¬((97≤c∧c≤122)∨(48≤c∧c≤57)∨c=45∨c=46))
def eB (s:ByteArray):Bool:=decide (1≤(s.size:Int)∧(s.size:Int)≤12)&&cm (fun i=>pa (bt s (i:Int))) (fun _=>false) true 0 s.size
theorem GK (k:Nat) (s:ByteArray) (i:Nat) (hi:i<s.size):gi.l0 (k+1) s (i:Int)=gi.j1 k s (i:Int) (pa (bt s (i:Int))):=by
 simp only[gi.l0];rw[if_pos (by omega),if_pos (by omega)];generalize bt s (i:Int)=c
 unfold pa
 (repeat' split)<;>(congr 1;rw[Bool.eq_iff_iff];simp;omega)
theorem GJ (s:ByteArray) (h:s.size≤9223372036854775807):Ev (fun k=>gi.f k s) (eB s):=by
 have hn:eB s=cm (fun i=>pa (bt s (i:Int))) (fun _=>false) (decide (1≤(s.size:Int)∧(s.size:Int)≤12)) 0 s.size:=by
  unfold eB;rw[nJ,nJ,Bool.and_true,Bool.and_comm]
 rw[hn];refine Ev.congr (fun k=>?_) (jN (fun i k=>gi.l0 k s (i:Int)) s.size _ _ _ (fun i r hi hp h=>?_) (fun i hi hp=>?_) ?_)
 ·simp only[gi.f];rfl
 ·refine Ev.step (fun k=>GK k s i hi) (Ev.step (f:=fun k=>gi.l0 k s ((i+1:Nat):Int)) (fun k=>?_) h);simp only[gi.j1];rw[if_neg (by simpa using hp),ca (n:=s.size) hi (by omega)]
 ·refine Ev.step (fun k=>GK k s i hi) (Ev.ends (fun k=>?_));simp only[gi.j1];rw[if_pos (by simpa using hp)]
 ·refine Ev.ends (fun k=>?_);simp only[gi.l0,nL.f];rw[if_neg (by omega)];split<;>(simp only[Option.bind_some];congr 1;rw[Bool.eq_iff_iff];simp;omega)
theorem Hd (k:Nat) (s:ByteArray) (i:Nat) (hi:i<s.size):eO.l0 (k+1) s (i:Int)=eO.j1 k s (i:Int) (pa (bt s (i:Int))):=by
 have hb:=Pj s (i:Int);have hw:wrap64 (bt s (i:Int))=bt s (i:Int):=fj (by omega) (by omega);simp only[eO.l0,gY.f,hw];rw[if_pos (by omega),if_pos (by omega)];generalize bt s (i:Int)=c
 unfold pa;by_cases a1:c≥97<;>by_cases a2:c≤122<;>by_cases a3:c≥48<;>by_cases a4:c≤57<;>by_cases a5:c=45<;>simp only[a1,a2,a3,a4,a5,if_true,if_false,Option.bind_some,decide_true,decide_false,Bool.false_eq_true,reduceIte]<;>first|rfl|(congr 1;done)|(congr 1;rw[Bool.eq_iff_iff];simp;done)|(congr 1;rw[Bool.eq_iff_iff];simp;omega)
theorem EI (s:ByteArray) (h:s.size≤9223372036854775807):Ev (fun k=>eO.f k s) (eB s):=by
 have hl:Ev (fun k=>eO.l0 k s 0) (cm (fun i=>pa (bt s (i:Int))) (fun _=>false) true 0 s.size):=by
  refine jN (fun i k=>eO.l0 k s (i:Int)) s.size _ _ _ (fun i r hi hp h=>?_) (fun i hi hp=>?_) ?_
  ·refine Ev.step (fun k=>Hd k s i hi) (Ev.step (f:=fun k=>eO.l0 k s ((i+1:Nat):Int)) (fun k=>?_) h);simp only[eO.j1];rw[if_neg (by simpa using hp),ca (n:=s.size) hi (by omega)]
  ·refine Ev.step (fun k=>Hd k s i hi) (Ev.ends (fun k=>?_));simp only[eO.j1];rw[if_pos (by simpa using hp)]
  ·refine Ev.ends (fun k=>?_);simp only[eO.l0];rw[if_neg (by omega)]
 unfold eB;by_cases h1:1≤(s.size:Int)∧(s.size:Int)≤12
 ·rw[decide_eq_true h1,Bool.true_and];refine Ev.congr (fun k=>?_) hl;simp only[eO.f,gY.f];rw[if_pos (by omega),Option.bind_some,if_pos (by simpa using h1.2)]
 ·rw[decide_eq_false h1,Bool.false_and];refine Ev.all (fun k=>?_);simp only[eO.f,gY.f];split
  ·simp only[Option.bind_some];rw[if_neg (by simp;omega)]
  ·simp
def rV (ds:List ak) (l:List ai) (i:Nat):Bool:=
 !eB (aq l (i:Int)).f0 || decide (jJ ds (aq l (i:Int)).f1<0) || (decide (0<i) && !Op.bytesLess (aq l ((i-1:Nat):Int)).f0.toList (aq l (i:Int)).f0.toList) || named (l.take i) (aq l (i:Int)).f1
def dX (ds:List ak) (l:List ai):Bool:=cm (rV ds l) (fun _=>false) (decide ((l.length:Int)≤30)) 0 l.length
theorem wo {i n:Nat} (h:i<n) (hn:n≤9223372036854775807) (h0:0<i):wrap64 ((i:Int)-1)=((i-1:Nat):Int):=by unfold wrap64;omega
theorem GH (ds:List ak) (b c:List ai) (n:Int) (l:List ai) (h0:ds.length≤1048576) (h:l.length≤1048576) (hz:∀e ∈ l,e.f0.size≤9223372036854775807):Ev (fun k=>dU.f k ds b c n l) (dX ds l):=by
 have body:∀i,i<l.length→∃K,∀k,K≤k→dU.l0 (k+1) l l (l.length:Int) (i:Int) ds b c n=dU.j1 k l l (l.length:Int) (i:Int) (rV ds l i) ds b c n:=by
  intro i hi;obtain⟨K1,e1⟩:=GJ (aq l (i:Int)).f0 (hz _ (zk hi));obtain⟨K2,e2⟩:=KN ds b c n h0 (aq l (i:Int)).f1;obtain⟨K3,e3⟩:=pj (l.take i) (by rw[List.length_take];omega) (aq l (i:Int)).f1;dsimp only at e1 e2 e3;refine⟨K1+K2+K3,fun k hk=>?_⟩;simp only[dU.l0];rw[if_pos (by omega),if_pos (by omega),if_pos (by omega),e1 k (by omega),Option.bind_some];unfold rV;cases hn:eB (aq l (i:Int)).f0
  ·rw[if_neg (by decide)];rfl
  rw[if_pos rfl,e2 k (by omega),Option.bind_some];by_cases np:jJ ds (aq l (i:Int)).f1<0
  ·rw[if_pos np];simp[np]
  rw[if_neg np,decide_eq_false np];by_cases hp:(i:Int)>0
  ·have hp':0<i:=by omega
   rw[if_pos hp,wo hi (by omega) hp',if_pos (by omega),if_pos (by omega),decide_eq_true hp'];cases hb:Op.bytesLess (aq l ((i-1:Nat):Int)).f0.toList (aq l (i:Int)).f0.toList
   ·rw[if_neg (by decide)];rfl
   ·rw[if_pos rfl,if_pos (by omega),Int.toNat_natCast,e3 k (by omega),Option.bind_some];rfl
  ·have hp':¬0<i:=by omega
   rw[if_neg hp,if_pos (by omega),Int.toNat_natCast,e3 k (by omega),Option.bind_some,decide_eq_false hp'];rfl
 refine Ev.congr (fun k=>?_) (jN (fun i k=>dU.l0 k l l (l.length:Int) (i:Int) ds b c n) l.length _ _ _ (fun i r hi hp h=>?_) (fun i hi hp=>?_) ?_)
 ·simp only[dU.f];rfl
 ·refine Ev.round (body i hi) (Ev.step (f:=fun k=>dU.l0 k l l (l.length:Int) ((i+1:Nat):Int) ds b c n) (fun k=>?_) h);simp only[dU.j1];rw[if_neg (by simpa using hp),ca (n:=l.length) hi (by omega)]
 ·refine Ev.round (body i hi) (Ev.ends (fun k=>?_));simp only[dU.j1];rw[if_pos (by simpa using hp)]
 ·refine Ev.ends (fun k=>?_);simp only[dU.l0];rw[if_neg (by omega)]
def qJ (ds:List ak) (l:List ai) (i:Nat):Bool:=
 !eB (aq l (i:Int)).f0 || decide (jJ ds (aq l (i:Int)).f1<0) || (decide (0<i) && !Op.bytesLess (aq l ((i-1:Nat):Int)).f0.toList (aq l (i:Int)).f0.toList)
theorem GV (l:List ai) (i:Nat) (hi:i≤l.length) (id:Int):named (l.take i) id=cm (fun j=>decide ((aq l (j:Int)).f1=id)) (fun _=>true) false 0 i:=by
 unfold named;rw[List.length_take,Nat.min_eq_left hi];refine F0 _ _ (fun j _ h2=>?_);rw[Rx l i j (by omega)]
theorem Hc (ds:List ak) (b c:List ai) (n:Int) (l:List ai) (h0:ds.length≤1048576) (h:l.length≤1048576) (hz:∀e ∈ l,e.f0.size≤9223372036854775807):Ev (fun k=>cp.f k ds b c n l) (dX ds l):=by
 have body:∀i,i<l.length→∃K,∀k,K≤k→cp.l0 (k+1) l (i:Int) ds b c n=cp.j1 k l (i:Int) (qJ ds l i) ds b c n:=by
  intro i hi;obtain⟨K1,e1⟩:=EI (aq l (i:Int)).f0 (hz _ (zk hi));obtain⟨K2,e2⟩:=KQ ds b c n h0 (aq l (i:Int)).f1;dsimp only at e1 e2;refine⟨K1+K2,fun k hk=>?_⟩;simp only[cp.l0];rw[if_pos (by omega),if_pos (by omega),e1 k (by omega),Option.bind_some];unfold qJ;cases hn:eB (aq l (i:Int)).f0
  ·rw[if_neg (by decide)];rfl
  rw[if_pos rfl,e2 k (by omega),Option.bind_some];by_cases np:jJ ds (aq l (i:Int)).f1<0
  ·rw[if_pos np];simp[np]
  rw[if_neg np,decide_eq_false np];by_cases hp:(i:Int)>0
  ·have hp':0<i:=by omega
   rw[if_pos hp,wo hi (by omega) hp',if_pos (by omega),if_pos (by omega),decide_eq_true hp'];rfl
  ·have hp':¬0<i:=by omega
   rw[if_neg hp,decide_eq_false hp'];rfl
 have inner:∀i,i<l.length→∀r,Ev (fun k=>cp.l0 k l ((i+1:Nat):Int) ds b c n) r→Ev (fun k=>cp.l1 k l (i:Int) 0 ds b c n) (cm (fun j=>decide ((aq l (j:Int)).f1=(aq l (i:Int)).f1)) (fun _=>false) r 0 i):=by
  intro i hi r hr;refine jN (fun j k=>cp.l1 k l (i:Int) (j:Int) ds b c n) i _ _ _ (fun j r hj hp h=>?_) (fun j hj hp=>?_) ?_
  ·refine Ev.step (fun k=>?_) h;simp only[cp.l1];rw[if_pos (by omega),if_pos (by omega),if_pos (by omega),if_pos (by omega),if_pos (by omega),if_neg (by simpa using hp),ca (n:=i) hj (by omega)]
  ·refine Ev.ends (fun k=>?_);simp only[cp.l1];rw[if_pos (by omega),if_pos (by omega),if_pos (by omega),if_pos (by omega),if_pos (by omega),if_pos (by simpa using hp)]
  ·refine Ev.step (fun k=>?_) hr;simp only[cp.l1];rw[if_neg (by omega),ca (n:=l.length) hi (by omega)]
 refine Ev.congr (fun k=>?_) (jN (fun i k=>cp.l0 k l (i:Int) ds b c n) l.length _ _ _ (fun i r hi hp h=>?_) (fun i hi hp=>?_) ?_)
 ·simp only[cp.f];rfl
 ·have hq:qJ ds l i=false∧named (l.take i) (aq l (i:Int)).f1=false:=by
   unfold rV at hp;simpa[qJ] using hp
  have h2:=inner i hi r h;rw[nJ,←GV l i (by omega),hq.2]at h2;refine Ev.round (body i hi) (Ev.step (f:=fun k=>cp.l1 k l (i:Int) 0 ds b c n) (fun k=>?_) (by simpa using h2));simp only[cp.j1];rw[if_neg (by rw[hq.1];decide)]
 ·refine Ev.round (body i hi) ?_;cases hb:qJ ds l i
  ·have hnm:named (l.take i) (aq l (i:Int)).f1=true:=by
    have hp':(qJ ds l i || named (l.take i) (aq l (i:Int)).f1)=true:=hp;rw[hb]at hp';simpa using hp'
   have hin:Ev (fun k=>cp.l1 k l (i:Int) 0 ds b c n) false:=by
    rw[GV l i (by omega)]at hnm;obtain⟨j0,_,Gq,Qe⟩:=Ar _ _ hnm
    have hfin:∀(d j:Nat),j+d=j0+1→(∀m,j≤m→m<j+d→m<i)→Ev (fun k=>cp.l1 k l (i:Int) (j:Int) ds b c n) false∨d=0:=by
     intro d
     induction d with
     |zero=>intro j _ _;exact Or.inr rfl
     |succ d ih=>
      intro j hj hm;left;by_cases xm:(aq l (j:Int)).f1=(aq l (i:Int)).f1
      ·refine Ev.ends (fun k=>?_);simp only[cp.l1];rw[if_pos (by have:=hm j (by omega) (by omega);omega),if_pos (by omega),if_pos (by have:=hm j (by omega) (by omega);omega),if_pos (by omega),if_pos (by omega),if_pos xm]
      ·rcases ih (j+1) (by omega) (fun m h1 h2=>hm m (by omega) (by omega)) with h|h
       ·refine Ev.step (fun k=>?_) h;simp only[cp.l1];rw[if_pos (by have:=hm j (by omega) (by omega);omega),if_pos (by omega),if_pos (by have:=hm j (by omega) (by omega);omega),if_pos (by omega),if_pos (by omega),if_neg xm,ca (n:=i) (hm j (by omega) (by omega)) (by omega)]
       ·have:j=j0:=by omega
        subst this;exact absurd (by simpa using Qe) xm
    rcases hfin (j0+1) 0 (by omega) (fun m _ h2=>by omega) with h|h
    ·exact h
    ·omega
   refine Ev.step (fun k=>?_) hin;simp only[cp.j1];rw[if_neg (by decide)]
  ·refine Ev.ends (fun k=>?_);simp only[cp.j1]
   first|rw[if_pos rfl]|rw[if_pos trivial]
 ·refine Ev.ends (fun k=>?_);simp only[cp.l0];rw[if_neg (by omega)]
def iB (ds:List ak) (ns ss:List ai) (nx:Int) (i:Nat):Bool:=
 !decide (1≤(aa ds (i:Int)).f0∧(aa ds (i:Int)).f0≤wrap64 (nx-1)) || !decide (0≤(aa ds (i:Int)).f2∧(aa ds (i:Int)).f2≤((aa ds (i:Int)).f1.length:Int)) || (decide (0<i)&&decide ((aa ds ((i-1:Nat):Int)).f0≥(aa ds (i:Int)).f0)) || (!named ns (aa ds (i:Int)).f0 && !named ss (aa ds (i:Int)).f0)
def fx (ds:List ak):Nat→Int
 |0=>0
 |i+1=>fx ds i+((aa ds (i:Int)).f1.length:Int)
theorem AH (ds:List ak) (hd:∀x ∈ ds,x.f1.length≤4194304):∀i,i≤ds.length→0≤fx ds i∧fx ds i≤(i:Int)*4194304
 |0,_=>by simp[fx]
 |i+1,h=>by
  have h1:=AH ds hd i (by omega);have h2:=hd _ (rZ (show i<ds.length by omega));simp only[fx];omega
def nc (ds:List ak) (ns ss:List ai) (nx:Int):Bool:=!cm (iB ds ns ss nx) (fun _=>true) false 0 ds.length
def cN (ds:List ak) (ns ss:List ai) (nx:Int):Bool:=
 decide (1≤nx∧nx≤1000000)&&(nc ds ns ss nx&&(decide (fx ds ds.length≤60000)&&(dX ds ns&&dX ds ss)))
theorem qL (a b c:Int):(if a≥b then (some (decide (a≤c))) else (some false))=some (decide (b≤a∧a≤c)):=by
 split
 ·congr 1;rw[Bool.eq_iff_iff];simp;omega
 ·congr 1;rw[Bool.eq_iff_iff];simp;omega
theorem Qi (ds:List ak) (ns ss:List ai) (nx:Int) (h0:ds.length≤1048576) (hd:∀x ∈ ds,x.f1.length≤4194304) (h1:ns.length≤1048576) (h2:ss.length≤1048576) (z1:∀e ∈ ns,e.f0.size≤9223372036854775807) (z2:∀e ∈ ss,e.f0.size≤9223372036854775807):Ev (fun k=>da.f k ds ns ss nx) (cN ds ns ss nx):=by
 have body:∀i,i<ds.length→∀s,∃K,∀k,K≤k→da.l0 (k+1) s ds (ds.length:Int) (i:Int) ds ns ss nx=da.j1 k s ds (ds.length:Int) (i:Int) (iB ds ns ss nx i) ds ns ss nx (aa ds (i:Int)).f0 (aa ds (i:Int)).f1 (aa ds (i:Int)).f2:=by
  intro i hi s;obtain⟨K1,e1⟩:=pj ns h1 (aa ds (i:Int)).f0;obtain⟨K2,e2⟩:=pj ss h2 (aa ds (i:Int)).f0;dsimp only at e1 e2;refine⟨K1+K2,fun k hk=>?_⟩;simp only[da.l0,nL.f,qL];rw[if_pos (by omega),if_pos (by omega),if_pos (by omega),Option.bind_some];unfold iB;by_cases c1:1≤(aa ds (i:Int)).f0∧(aa ds (i:Int)).f0≤wrap64 (nx-1)
  case neg=>rw[decide_eq_false c1,if_neg (by decide)];rfl
  rw[decide_eq_true c1,if_pos rfl,Option.bind_some];by_cases c2:0≤(aa ds (i:Int)).f2∧(aa ds (i:Int)).f2≤((aa ds (i:Int)).f1.length:Int)
  case neg=>rw[decide_eq_false c2,if_neg (by decide)];rfl
  rw[decide_eq_true c2,if_pos rfl];by_cases hp:(i:Int)>0
  ·have hp':0<i:=by omega
   rw[if_pos hp,wo hi (by omega) hp',if_pos (by omega),if_pos (by omega),decide_eq_true hp'];by_cases c3:(aa ds ((i-1:Nat):Int)).f0≥(aa ds (i:Int)).f0
   ·rw[if_pos c3,decide_eq_true c3];rfl
   rw[if_neg c3,decide_eq_false c3,e1 k (by omega),Option.bind_some];cases hn:named ns (aa ds (i:Int)).f0
   ·rw[if_neg (by decide),e2 k (by omega),Option.bind_some];rfl
   ·rw[if_pos rfl];rfl
  ·have hp':¬0<i:=by omega
   rw[if_neg hp,decide_eq_false hp',e1 k (by omega),Option.bind_some];cases hn:named ns (aa ds (i:Int)).f0
   ·rw[if_neg (by decide),e2 k (by omega),Option.bind_some];rfl
   ·rw[if_pos rfl];rfl
 have hv:cN ds ns ss nx=cm (iB ds ns ss nx) (fun _=>false) (decide (1≤nx∧nx≤1000000)&&(decide (fx ds ds.length≤60000)&&(dX ds ns&&dX ds ss))) 0 ds.length:=by
  rw[nJ];unfold cN nc;cases decide (1≤nx∧nx≤1000000)<;>simp
 rw[hv];have pl:=AH ds hd;refine Ev.congr (fun k=>?_) (jN (fun i k=>da.l0 k (fx ds i) ds (ds.length:Int) (i:Int) ds ns ss nx) ds.length _ _ _ (fun i r hi hp h=>?_) (fun i hi hp=>?_) ?_)
 ·simp only[da.f];rfl
 ·refine Ev.round (body i hi _) (Ev.step (f:=fun k=>da.l0 k (fx ds (i+1)) ds (ds.length:Int) ((i+1:Nat):Int) ds ns ss nx) (fun k=>?_) h);have b1:=pl (i+1) (by omega);simp only[fx]at b1;simp only[da.j1,fx];rw[if_neg (by simpa using hp),ca (n:=ds.length) hi (by omega),fj (by omega) (by omega)]
 ·refine Ev.round (body i hi _) (Ev.ends (fun k=>?_));simp only[da.j1];rw[if_pos (by simpa using hp)]
 ·obtain⟨K1,e1⟩:=GH ds ns ss nx ns h0 h1 z1;obtain⟨K2,e2⟩:=GH ds ns ss nx ss h0 h2 z2;dsimp only at e1 e2;refine Ev.round (f:=fun _=>some _) ⟨K1+K2,fun k hk=>?_⟩ (Ev.now _);simp only[da.l0,nL.f,qL];rw[if_neg (by omega),Option.bind_some];by_cases c1:1≤nx∧nx≤1000000
  case neg=>rw[decide_eq_false c1,if_neg (by decide)];rfl
  rw[decide_eq_true c1,if_pos rfl];by_cases c2:fx ds ds.length≤60000
  case neg=>rw[if_neg c2,decide_eq_false c2];rfl
  rw[if_pos c2,decide_eq_true c2,e1 k (by omega),Option.bind_some];cases dX ds ns
  ·rw[if_neg (by decide)];rfl
  ·rw[if_pos rfl,e2 k (by omega),Option.bind_some];rfl
theorem G4:∀(n:Nat) (f:Nat→Int) (m:List Int),(∀i j,i<j→j<n→f i≠f j)→(∀i,i<n→f i ∈ m)→n≤m.length
 |0,_,_,_,_=>Nat.zero_le _
 |n+1,f,m,hne,hm=>by
  have hn:=hm n (by omega);have h:=G4 n f (m.erase (f n)) (fun i j h1 h2=>hne i j h1 (by omega)) (fun i hi=>(List.mem_erase_of_ne (hne i n hi (by omega))).2 (hm i (by omega)));rw[List.length_erase_of_mem hn]at h;have:0<m.length:=List.length_pos_of_mem hn;omega
theorem DC {ds:List ak} {l:List ai} (h:dX ds l=true):l.length≤30:=by
 unfold dX at h;rw[nJ,Bool.and_eq_true,decide_eq_true_eq]at h;omega
theorem uy {ds:List ak} {ns ss:List ai} {nx:Int} (h:nc ds ns ss nx=true) (i:Nat) (hi:i<ds.length):iB ds ns ss nx i=false:=
 xW _ _ (by simpa[nc] using h) i (by omega) (by omega)
theorem GL {ds:List ak} {ns ss:List ai} {nx:Int} {i:Nat} (h:iB ds ns ss nx i=false) (hi:0<i):(aa ds ((i-1:Nat):Int)).f0<(aa ds (i:Int)).f0:=by
 unfold iB at h;rw[Bool.or_eq_false_iff,Bool.or_eq_false_iff,decide_eq_true hi,Bool.true_and,decide_eq_false_iff_not]at h;omega
theorem GM {ds:List ak} {ns ss:List ai} {nx:Int} (h:nc ds ns ss nx=true):∀(d i:Nat),i+d+1<ds.length→(aa ds (i:Int)).f0<(aa ds ((i+d+1:Nat):Int)).f0
 |0,i,hi=>GL (uy h (i+1) (by omega)) (by omega)
 |d+1,i,hi=>by
  have h1:=GM h d i (by omega);have h2:=GL (uy h (i+d+1+1) (by omega)) (by omega);rw[show i+d+1+1-1=i+d+1 from rfl]at h2;rw[show i+(d+1)+1=i+d+1+1 from by omega];omega
theorem Mp {ds:List ak} {ns ss:List ai} {nx:Int} (h:nc ds ns ss nx=true) (h1:dX ds ns=true) (h2:dX ds ss=true):ds.length≤60:=by
 have l1:=DC h1;have l2:=DC h2
 have hp:=G4 ds.length (fun i=>(aa ds (i:Int)).f0) (ns.map (fun e=>e.f1)++ss.map (fun e=>e.f1)) (fun i j hij hj=>by
  have:=GM h (j-i-1) i (by omega);have e:i+(j-i-1)+1=j:=by omega
  rw[e]at this;show (aa ds (i:Int)).f0≠(aa ds (j:Int)).f0;omega) (fun i hi=>by
  have hb:=uy h i hi;unfold iB at hb;rw[Bool.or_eq_false_iff,Bool.and_eq_false_iff]at hb
  rcases hb.2 with hb|hb
  ·exact List.mem_append_left _ (GU (by simpa using hb))
  ·exact List.mem_append_right _ (GU (by simpa using hb)))
 rw[List.length_append,List.length_map,List.length_map]at hp;omega
theorem Ry (ds:List ak) (ns ss:List ai) (nx:Int) (h0:ds.length≤1048576) (hd:∀x ∈ ds,x.f1.length≤4194304) (h1:ns.length≤1048576) (h2:ss.length≤1048576) (z1:∀e ∈ ns,e.f0.size≤9223372036854775807) (z2:∀e ∈ ss,e.f0.size≤9223372036854775807):Ev (fun k=>bL.f k ds ns ss nx) (cN ds ns ss nx):=by
 have body:∀i,i<ds.length→∀s,∃K,∀k,K≤k→bL.l0 (k+1) s (i:Int) ds ns ss nx=bL.j2 k s (i:Int) (iB ds ns ss nx i) ds ns ss nx (aa ds (i:Int)).f0 (aa ds (i:Int)).f1 (aa ds (i:Int)).f2:=by
  intro i hi s;obtain⟨K1,e1⟩:=wa ns h1 (aa ds (i:Int)).f0;obtain⟨K2,e2⟩:=wa ss h2 (aa ds (i:Int)).f0;dsimp only at e1 e2;refine⟨K1+K2,fun k hk=>?_⟩;simp only[bL.l0,gY.f,qL];rw[if_pos (by omega),if_pos (by omega),Option.bind_some];unfold iB;by_cases c1:1≤(aa ds (i:Int)).f0∧(aa ds (i:Int)).f0≤wrap64 (nx-1)
  case neg=>rw[decide_eq_false c1,if_neg (by decide)];rfl
  rw[decide_eq_true c1,if_pos rfl,Option.bind_some]
  have tail:(if decide (0≤(aa ds (i:Int)).f2∧(aa ds (i:Int)).f2≤((aa ds (i:Int)).f1.length:Int))=true then ((fS.f k ns (aa ds (i:Int)).f0).bind fun t152=>(if t152=true then (bL.j2 k s (i:Int) false ds ns ss nx (aa ds (i:Int)).f0 (aa ds (i:Int)).f1 (aa ds (i:Int)).f2) else ((fS.f k ss (aa ds (i:Int)).f0).bind fun t153=>(bL.j2 k s (i:Int) (!t153) ds ns ss nx (aa ds (i:Int)).f0 (aa ds (i:Int)).f1 (aa ds (i:Int)).f2)))) else (bL.j2 k s (i:Int) true ds ns ss nx (aa ds (i:Int)).f0 (aa ds (i:Int)).f1 (aa ds (i:Int)).f2))=bL.j2 k s (i:Int) (!decide (0≤(aa ds (i:Int)).f2∧(aa ds (i:Int)).f2≤((aa ds (i:Int)).f1.length:Int)) || (!named ns (aa ds (i:Int)).f0 && !named ss (aa ds (i:Int)).f0)) ds ns ss nx (aa ds (i:Int)).f0 (aa ds (i:Int)).f1 (aa ds (i:Int)).f2:=by
   by_cases c2:0≤(aa ds (i:Int)).f2∧(aa ds (i:Int)).f2≤((aa ds (i:Int)).f1.length:Int)
   case neg=>rw[decide_eq_false c2,if_neg (by decide)];rfl
   rw[decide_eq_true c2,if_pos rfl,e1 k (by omega),Option.bind_some];cases hn:named ns (aa ds (i:Int)).f0
   ·rw[if_neg (by decide),e2 k (by omega),Option.bind_some];rfl
   ·rw[if_pos rfl];rfl
  by_cases hp:(i:Int)>0
  ·have hp':0<i:=by omega
   rw[if_pos hp,wo hi (by omega) hp',if_pos (by omega),if_pos (by omega),decide_eq_true hp'];by_cases c3:(aa ds ((i-1:Nat):Int)).f0≥(aa ds (i:Int)).f0
   ·rw[if_pos c3,decide_eq_true c3];simp
   rw[if_neg c3,decide_eq_false c3,tail];simp
  ·have hp':¬0<i:=by omega
   rw[if_neg hp,decide_eq_false hp',tail];simp
 have hv:cN ds ns ss nx=(decide (1≤nx∧nx≤1000000)&&(!decide ((ds.length:Int)>60)&&cm (iB ds ns ss nx) (fun _=>false) (decide (fx ds ds.length≤60000)&&(dX ds ns&&dX ds ss)) 0 ds.length)):=by
  rw[nJ];unfold cN;rw[show (!cm (iB ds ns ss nx) (fun _=>true) false 0 ds.length)=nc ds ns ss nx from rfl];cases ha:nc ds ns ss nx<;>cases hb:dX ds ns<;>cases hc:dX ds ss<;>first|(have h60:=Mp ha hb hc;rw[decide_eq_false (show ¬((ds.length:Int)>60) by omega)];simp;done)|simp
 rw[hv];have pl:=AH ds hd
 have loop:Ev (fun k=>bL.l0 k 0 0 ds ns ss nx) (cm (iB ds ns ss nx) (fun _=>false) (decide (fx ds ds.length≤60000)&&(dX ds ns&&dX ds ss)) 0 ds.length):=by
  refine jN (fun i k=>bL.l0 k (fx ds i) (i:Int) ds ns ss nx) ds.length _ _ _ (fun i r hi hp h=>?_) (fun i hi hp=>?_) ?_
  ·refine Ev.round (body i hi _) (Ev.step (f:=fun k=>bL.l0 k (fx ds (i+1)) ((i+1:Nat):Int) ds ns ss nx) (fun k=>?_) h);have b1:=pl (i+1) (by omega);simp only[fx]at b1;simp only[bL.j2,fx];rw[if_neg (by simpa using hp),ca (n:=ds.length) hi (by omega),fj (by omega) (by omega)]
  ·refine Ev.round (body i hi _) (Ev.ends (fun k=>?_));simp only[bL.j2];rw[if_pos (by simpa using hp)]
  ·obtain⟨K1,e1⟩:=Hc ds ns ss nx ns h0 h1 z1;obtain⟨K2,e2⟩:=Hc ds ns ss nx ss h0 h2 z2;dsimp only at e1 e2;refine Ev.round (f:=fun _=>some _) ⟨K1+K2,fun k hk=>?_⟩ (Ev.now _);simp only[bL.l0];rw[if_neg (by omega)];by_cases c2:fx ds ds.length≤60000
   case neg=>rw[if_neg c2,decide_eq_false c2];rfl
   rw[if_pos c2,decide_eq_true c2,e1 k (by omega),Option.bind_some];cases dX ds ns
   ·rw[if_neg (by decide)];rfl
   ·rw[if_pos rfl,e2 k (by omega),Option.bind_some];rfl
 by_cases c1:1≤nx∧nx≤1000000
 ·rw[decide_eq_true c1,Bool.true_and];by_cases c2:(ds.length:Int)>60
  ·rw[decide_eq_true c2];refine Ev.ends (fun k=>?_);simp only[bL.f,gY.f,qL];rw[decide_eq_true c1,Option.bind_some,if_pos rfl,decide_eq_true c2];simp only[bL.j0];rfl
  ·rw[decide_eq_false c2];refine Ev.step (fun k=>?_) loop;simp only[bL.f,gY.f,qL];rw[decide_eq_true c1,Option.bind_some,if_pos rfl,decide_eq_false c2];simp only[bL.j0];rw[if_neg (by decide)]
 ·rw[decide_eq_false c1,Bool.false_and];refine Ev.ends (fun k=>?_);simp only[bL.f,gY.f,qL];rw[decide_eq_false c1,Option.bind_some,if_neg (by decide)];simp only[bL.j0];rfl
theorem xX (p:Nat→Bool):∀(d i:Nat),(∃j,i≤j∧j<i+d∧p j=true∧∀ {ρ:Type} (stop:Nat→ρ) (e:ρ),cm p stop e i d=stop j)∨((∀j,i≤j→j<i+d→p j=false)∧∀ {ρ:Type} (stop:Nat→ρ) (e:ρ),cm p stop e i d=e)
 |0,i=>Or.inr ⟨fun j h1 h2=>by omega,fun _ _=>rfl⟩
 |d+1,i=>by
  by_cases hp:p i=true
  ·exact Or.inl ⟨i,by omega,by omega,hp,fun stop e=>by simp only[cm];rw[if_pos hp]⟩
  ·rcases xX p d (i+1) with ⟨j,h1,h2,h3,h4⟩|⟨h1,h2⟩
   ·exact Or.inl ⟨j,by omega,by omega,h3,fun stop e=>by simp only[cm];rw[if_neg hp];exact h4 stop e⟩
   ·refine Or.inr ⟨fun j a b=>?_,fun stop e=>by simp only[cm];rw[if_neg hp];exact h2 stop e⟩;by_cases hj:j=i
    ·subst hj;simpa using hp
    ·exact h1 j (by omega) (by omega)
theorem RL {a b:ByteArray} (h:a.toList=b.toList):a=b:=by
 rw[ByteArray.toList_eq,ByteArray.toList_eq]at h;exact ByteArray.ext (Array.toList_inj.1 h)
theorem Px {ds:List ak} {l:List ai} (h:dX ds l=true) (i:Nat) (hi:i<l.length):eB (aq l (i:Int)).f0=true∧0≤jJ ds (aq l (i:Int)).f1:=by
 unfold dX at h;rw[nJ,Bool.and_eq_true]at h;have hb:=xW _ _ (by simpa using h.1) i (by omega) (by omega);unfold rV at hb;rw[Bool.or_eq_false_iff,Bool.or_eq_false_iff,Bool.or_eq_false_iff]at hb;obtain⟨⟨⟨h1,h2⟩,_⟩,_⟩:=hb;refine⟨by simpa using h1,?_⟩;have:=of_decide_eq_false h2;omega
theorem NA {ds:List ak} {id:Int} (h:0≤jJ ds id):∃j,j<ds.length∧jJ ds id=(j:Int)∧(aa ds (j:Int)).f0=id:=by
 unfold jJ at h ⊢
 rcases xX (fun i=>decide ((aa ds (i:Int)).f0=id)) ds.length 0 with ⟨j,_,h2,h3,h4⟩|⟨_,h2⟩
 ·exact⟨j,by omega,h4 _ _,by simpa using h3⟩
 ·rw[h2]at h;omega
theorem Nz {ds:List ak} {ns ss:List ai} {nx:Int} {i:Nat} (h:iB ds ns ss nx i=false):1≤(aa ds (i:Int)).f0∧0≤(aa ds (i:Int)).f2∧(aa ds (i:Int)).f2≤((aa ds (i:Int)).f1.length:Int):=by
 unfold iB at h;rw[Bool.or_eq_false_iff,Bool.or_eq_false_iff,Bool.or_eq_false_iff]at h;obtain⟨⟨⟨h1,h2⟩,_⟩,_⟩:=h;have a:=of_decide_eq_true (by simpa using h1:decide (1≤(aa ds (i:Int)).f0∧(aa ds (i:Int)).f0≤wrap64 (nx-1))=true);have b:=of_decide_eq_true (by simpa using h2:decide (0≤(aa ds (i:Int)).f2∧(aa ds (i:Int)).f2≤((aa ds (i:Int)).f1.length:Int))=true);exact⟨a.1,b⟩
theorem BP {ds:List ak} {ns ss:List ai} {nx:Int} (h:cN ds ns ss nx=true):nc ds ns ss nx=true∧dX ds ns=true∧dX ds ss=true:=by
 unfold cN at h;simp only[Bool.and_eq_true]at h;exact⟨h.2.1,h.2.2.2.1,h.2.2.2.2⟩
theorem xV {β γ:Type} (L:Nat→List β→Nat→Option γ) (n:Nat) (p:Nat→Bool) (h:Nat→β) (fin:List β→γ)
 (yo:∀(i:Nat) (out:List β) (r:γ),i<n→out.length≤i→p i=true→Ev (fun k=>L k (out++[h i]) (i+1)) r→Ev (fun k=>L k out i) r)
 (kR:∀(i:Nat) (out:List β) (r:γ),i<n→out.length≤i→p i=false→Ev (fun k=>L k out (i+1)) r→Ev (fun k=>L k out i) r)
 (he:∀out:List β,out.length≤n→Ev (fun k=>L k out n) (fin out)):Ev (fun k=>L k [] 0) (fin (((List.range n).filter p).map h)):=by
 have key:∀(d i:Nat),i+d=n→Ev (fun k=>L k (((List.range i).filter p).map h) i) (fin (((List.range n).filter p).map h)):=by
  intro d
  induction d with
  |zero=>
   intro i hi;have:i=n:=by omega
   subst this;exact he _ (by rw[List.length_map];exact Nat.le_trans (List.length_filter_le _ _) (by simp))
  |succ d ih=>
   intro i hi;have hl:(((List.range i).filter p).map h).length≤i:=by rw[List.length_map];exact Nat.le_trans (List.length_filter_le _ _) (by simp)
   have hn:=ih (i+1) (by omega);rw[List.range_succ,List.filter_append,List.map_append]at hn;cases hp:p i
   ·refine kR i _ _ (by omega) hl hp ?_;simpa[hp] using hn
   ·refine yo i _ _ (by omega) hl hp ?_;simpa[hp] using hn
 exact key n 0 (by omega)
theorem Hb (ds:List ak):(List.range ds.length).map (fun (i:Nat)=>aa ds (i:Int))=ds:=by
 have:=AM ds (fun x=>x) z80;rw[List.map_id']at this;exact this
theorem Qu (ds:List ak) (ns ss:List ai) (nx:Int) (h0:ds.length≤1048576) (hd:∀x ∈ ds,x.f1.length≤4194304) (h1:ns.length≤1048576) (h2:ss.length≤1048576):Ev (fun k=>fE.f k ds ns ss nx) (ds,ns,ss,nx):=by
 have loop:=xV (fun k out i=>fE.l0 k (i:Int) ds ns ss nx out ns ss nx) ds.length (fun _=>true) (fun (i:Nat)=>aa ds (i:Int)) (fun out=>(out,ns,ss,nx)) (fun i out r hi ho _ h=>?_) (fun i out r hi ho hp h=>by simp at hp) (fun out ho=>?_)
 ·rw[List.filter_eq_self.2 (fun _ _=>rfl),Hb]at loop;refine Ev.congr (fun k=>?_) loop;simp only[fE.f,Option.bind_some,List.nil_append,List.length_nil];rw[if_pos (by omega),if_pos (by omega)];rfl
 ·have hm:=hd _ (rZ hi);refine Ev.step (fun k=>?_) h;simp only[fE.l0,Option.bind_some,List.nil_append,List.length_nil];rw[if_pos (by omega),if_pos (by omega),if_pos (by omega),if_pos (by omega),ca (n:=ds.length) hi (by omega)]
 ·refine Ev.ends (fun k=>?_);simp only[fE.l0];rw[if_neg (by omega)]
theorem Pt (ds:List ak) (ns ss:List ai) (nx:Int) (h0:ds.length≤1048576) (hd:∀x ∈ ds,x.f1.length≤4194304) (h1:ns.length≤1048576) (h2:ss.length≤1048576):Ev (fun k=>iA.f k ds ns ss nx) (ds,ns,ss,nx):=by
 have loop:=xV (fun k out i=>iA.l0 k ds (ds.length:Int) (i:Int) out ns ss nx) ds.length (fun _=>true) (fun (i:Nat)=>aa ds (i:Int)) (fun out=>(out,ns,ss,nx)) (fun i out r hi ho _ h=>?_) (fun i out r hi ho hp h=>by simp at hp) (fun out ho=>?_)
 ·rw[List.filter_eq_self.2 (fun _ _=>rfl),Hb]at loop;refine Ev.congr (fun k=>?_) loop;simp only[iA.f,List.nil_append,List.length_nil];rw[if_pos (by omega),if_pos (by omega)];rfl
 ·have hm:=hd _ (rZ hi);refine Ev.step (fun k=>?_) h;simp only[iA.l0,Ny.f,List.nil_append,List.length_nil];rw[if_pos (by omega),if_pos (by omega),if_pos (by omega),if_pos (by omega),Option.bind_some,if_pos (by omega),ca (n:=ds.length) hi (by omega)]
 ·refine Ev.ends (fun k=>?_);simp only[iA.l0];rw[if_neg (by omega)]
theorem PF {β γ:Type} (L:Nat→List β→Nat→Option γ) (n:Nat) (p:Nat→Bool) (h:Nat→β) (r:γ)
 (yo:∀(i:Nat) (out:List β) (r:γ),i<n→out.length≤i→p i=true→Ev (fun k=>L k (out++[h i]) (i+1)) r→Ev (fun k=>L k out i) r)
 (kR:∀(i:Nat) (out:List β) (r:γ),i<n→out.length≤i→p i=false→Ev (fun k=>L k out (i+1)) r→Ev (fun k=>L k out i) r)
 (he:Ev (fun k=>L k (((List.range n).filter p).map h) n) r):Ev (fun k=>L k [] 0) r:=by
 have key:∀(d i:Nat),i+d=n→Ev (fun k=>L k (((List.range i).filter p).map h) i) r:=by
  intro d
  induction d with
  |zero=>
   intro i hi;have:i=n:=by omega
   subst this;exact he
  |succ d ih=>
   intro i hi;have hl:(((List.range i).filter p).map h).length≤i:=by rw[List.length_map];exact Nat.le_trans (List.length_filter_le _ _) (by simp)
   have hn:=ih (i+1) (by omega);rw[List.range_succ,List.filter_append,List.map_append]at hn;cases hp:p i
   ·refine kR i _ _ (by omega) hl hp ?_;simpa[hp] using hn
   ·refine yo i _ _ (by omega) hl hp ?_;simpa[hp] using hn
 exact key n 0 (by omega)
def kept (ds:List ak) (ns ss:List ai):List ak:=((List.range ds.length).filter (fun (i:Nat)=>named ns (aa ds (i:Int)).f0 || named ss (aa ds (i:Int)).f0)).map (fun (i:Nat)=>aa ds (i:Int))
theorem Qq (ds:List ak) (ns ss:List ai):(kept ds ns ss).length≤ds.length:=by
 unfold kept;rw[List.length_map];exact Nat.le_trans (List.length_filter_le _ _) (by simp)
theorem Qr {ds:List ak} {ns ss:List ai} {x:ak} (h:x ∈ kept ds ns ss):x ∈ ds:=by
 obtain⟨i,hi,rfl⟩:=List.mem_map.1 h;exact rZ (by simpa using (List.mem_filter.1 hi).1)
abbrev lp:=List ak × List ai × List ai × Int × Int
def kj (d0:List ak) (n0 s0:List ai) (x0:Int) (ds:List ak) (ns ss:List ai) (nx:Int):lp:=
 if cN (kept ds ns ss) ns ss nx=true then (kept ds ns ss,ns,ss,nx,0) else (d0,n0,s0,x0,4)
structure Small (ds:List ak) (ns ss:List ai):Prop where
 h0:ds.length≤1048576
 hd:∀x ∈ ds,x.f1.length≤4194304
 h1:ns.length≤1048576
 h2:ss.length≤1048576
 z1:∀e ∈ ns,e.f0.size≤9223372036854775807
 z2:∀e ∈ ss,e.f0.size≤9223372036854775807
theorem Small.kept {ds:List ak} {ns ss:List ai} (h:Small ds ns ss):Small (kept ds ns ss) ns ss:=⟨Nat.le_trans (Qq ds ns ss) h.h0,fun x hx=>h.hd x (Qr hx),h.h1,h.h2,h.z1,h.z2⟩
theorem Small.spec {ds:List ak} {ns ss:List ai} (h:Small ds ns ss) (nx:Int):Ev (fun k=>bL.f k ds ns ss nx) (cN ds ns ss nx):=Ry ds ns ss nx h.h0 h.hd h.h1 h.h2 h.z1 h.z2
theorem Small.impl {ds:List ak} {ns ss:List ai} (h:Small ds ns ss) (nx:Int):Ev (fun k=>da.f k ds ns ss nx) (cN ds ns ss nx):=Qi ds ns ss nx h.h0 h.hd h.h1 h.h2 h.z1 h.z2
theorem Small.FQ {ds:List ak} {ns ss:List ai} (h:Small ds ns ss) (nx:Int):Ev (fun k=>fE.f k ds ns ss nx) (ds,ns,ss,nx):=Qu ds ns ss nx h.h0 h.hd h.h1 h.h2
theorem Small.Ao {ds:List ak} {ns ss:List ai} (h:Small ds ns ss) (nx:Int):Ev (fun k=>iA.f k ds ns ss nx) (ds,ns,ss,nx):=Pt ds ns ss nx h.h0 h.hd h.h1 h.h2
theorem Pw {d0:List ak} {n0 s0:List ai} {x0:Int} {ds:List ak} {ns ss:List ai} {nx:Int} (h0:Small d0 n0 s0) (h:Small ds ns ss):Small (kj d0 n0 s0 x0 ds ns ss nx).1 (kj d0 n0 s0 x0 ds ns ss nx).2.1 (kj d0 n0 s0 x0 ds ns ss nx).2.2.1:=by
 unfold kj;split
 ·exact h.kept
 ·exact h0
theorem Qj (mdo:Nat→List ak→List ai→List ai→Int→Option lp) (d0:List ak) (n0 s0:List ai) (x0:Int) (ds:List ak) (ns ss:List ai) (nx:Int) (e0:List ak) (h0:Small d0 n0 s0) (h:Small ds ns ss):Ev (fun k=>cC.l1 mdo k [] ds (ds.length:Int) 0 d0 n0 s0 x0 e0 ns ss nx) (kj d0 n0 s0 x0 ds ns ss nx):=by
 refine PF (fun k out i=>cC.l1 mdo k out ds (ds.length:Int) (i:Int) d0 n0 s0 x0 e0 ns ss nx) ds.length (fun (i:Nat)=>named ns (aa ds (i:Int)).f0 || named ss (aa ds (i:Int)).f0) (fun (i:Nat)=>aa ds (i:Int)) _ (fun i out r hi ho hp hh=>?_) (fun i out r hi ho hp hh=>?_) ?_
 ·obtain⟨K,e⟩:=pj ns h.h1 (aa ds (i:Int)).f0;obtain⟨K2,e2⟩:=pj ss h.h2 (aa ds (i:Int)).f0;dsimp only at e e2;have hb:=h.h0;refine Ev.round ⟨K+K2,fun k hk=>?_⟩ hh;simp only[cC.l1];rw[if_pos (by omega),if_pos (by omega),if_pos (by omega),e k (by omega),Option.bind_some];cases hq:named ns (aa ds (i:Int)).f0
  ·rw[hq,Bool.false_or]at hp;rw[if_neg (by decide),e2 k (by omega),Option.bind_some,hp,if_pos rfl,if_pos (by omega),ca (n:=ds.length) hi (by omega)]
  ·rw[if_pos rfl,if_pos (by omega),ca (n:=ds.length) hi (by omega)]
 ·obtain⟨K,e⟩:=pj ns h.h1 (aa ds (i:Int)).f0;obtain⟨K2,e2⟩:=pj ss h.h2 (aa ds (i:Int)).f0;dsimp only at e e2;rw[Bool.or_eq_false_iff]at hp;have hb:=h.h0;refine Ev.round ⟨K+K2,fun k hk=>?_⟩ hh;simp only[cC.l1];rw[if_pos (by omega),if_pos (by omega),if_pos (by omega),e k (by omega),Option.bind_some,hp.1,if_neg (by decide),e2 k (by omega),Option.bind_some,hp.2,if_neg (by decide),ca (n:=ds.length) hi (by omega)]
 ·refine Ev.step (f:=fun k=>(da.f k (kept ds ns ss) ns ss nx).bind fun t=>(if t=true then (some (kept ds ns ss,ns,ss,nx,0)) else ((iA.f k d0 n0 s0 x0).bind fun bt=>(some (bt.1,bt.2.1,bt.2.2.1,bt.2.2.2,4))))) (fun k=>?_) ?_
  ·simp only[cC.l1];rw[if_neg (by omega)];rfl
  ·refine Ev.bind' (h.kept.impl nx) ?_;unfold kj;cases cN (kept ds ns ss) ns ss nx
   ·simp only[Bool.false_eq_true,if_false];exact Ev.bind' (h0.Ao x0) (Ev.now _)
   ·simp only[if_true];exact Ev.now _
theorem Qp (ds:List ak) (ns ss:List ai) (nx:Int) (h0:ds.length≤1048576) (h1:ns.length≤1048576) (h2:ss.length≤1048576):Ev (fun k=>jg.f k ds ns ss nx) (kept ds ns ss,ns,ss,nx):=by
 have body:∀i,i<ds.length→∀out,∃K,∀k,K≤k→jg.l0 (k+1) out (i:Int) ds ns ss nx=jg.j1 k out (i:Int) (named ns (aa ds (i:Int)).f0 || named ss (aa ds (i:Int)).f0) ds ns ss nx:=by
  intro i hi out;obtain⟨K,e⟩:=wa ns h1 (aa ds (i:Int)).f0;obtain⟨K2,e2⟩:=wa ss h2 (aa ds (i:Int)).f0;dsimp only at e e2;refine⟨K+K2,fun k hk=>?_⟩;simp only[jg.l0];rw[if_pos (by omega),if_pos (by omega),e k (by omega),Option.bind_some];cases named ns (aa ds (i:Int)).f0
  ·rw[if_neg (by decide),e2 k (by omega),Option.bind_some,Bool.false_or]
  ·rw[if_pos rfl,Bool.true_or]
 refine Ev.congr (fun k=>?_) (xV (fun k out i=>jg.l0 k out (i:Int) ds ns ss nx) ds.length _ _ (fun out=>(out,ns,ss,nx)) (fun i out r hi ho hp h=>?_) (fun i out r hi ho hp h=>?_) (fun out ho=>?_))
 ·simp only[jg.f];rfl
 ·refine Ev.round (body i hi out) (Ev.step (fun k=>?_) h);simp only[jg.j1,hp];rw[if_pos trivial,if_pos (by omega),if_pos (by omega),if_pos (by omega),ca (n:=ds.length) hi (by omega)]
 ·refine Ev.round (body i hi out) (Ev.step (fun k=>?_) h);simp only[jg.j1,hp];rw[if_neg (by decide),ca (n:=ds.length) hi (by omega)]
 ·refine Ev.ends (fun k=>?_);simp only[jg.l0];rw[if_neg (by omega)]
theorem Rz (d0:List ak) (n0 s0:List ai) (x0:Int) (ds:List ak) (ns ss:List ai) (nx:Int) (h0:Small d0 n0 s0) (h:Small ds ns ss):Ev (fun k=>o0.f k d0 n0 s0 x0 ds ns ss nx) (kj d0 n0 s0 x0 ds ns ss nx):=by
 unfold o0.f kj;refine Ev.bind' (Qp ds ns ss nx h.h0 h.h1 h.h2) ?_;dsimp only;refine Ev.bind' (h.kept.spec nx) ?_;cases cN (kept ds ns ss) ns ss nx
 ·simp only[Bool.false_eq_true,if_false];exact Ev.bind' (h0.FQ x0) (Ev.now _)
 ·simp only[if_true];exact Ev.now _
def nameAt (l:List ai) (nm:ByteArray):Int:=cm (fun i=>decide ((aq l (i:Int)).f0.toList=nm.toList)) (fun i=>(i:Int)) (-1) 0 l.length
def ie (l:List ai) (nm:ByteArray):Int:=cm (fun i=>decide ((aq l (i:Int)).f0.toList=nm.toList)) (fun i=>(aq l (i:Int)).f1) 0 0 l.length
theorem GG (ds:List ak) (l c:List ai) (n:Int) (nm:ByteArray) (h:l.length≤1048576):Ev (fun k=>lF.f k ds l c n nm) (ie l nm):=by
 refine Ev.congr (fun k=>?_) (jN (fun i k=>lF.l0 k nm l (l.length:Int) (i:Int)) l.length _ _ _ (fun i r hi hp h=>?_) (fun i hi hp=>?_) ?_)
 ·simp only[lF.f];rfl
 ·refine Ev.step (fun k=>?_) h;simp only[lF.l0];rw[if_pos (by omega),if_pos (by omega),if_pos (by omega),if_neg (by simpa using hp),ca (n:=l.length) hi (by omega)]
 ·refine Ev.ends (fun k=>?_);simp only[lF.l0];rw[if_pos (by omega),if_pos (by omega),if_pos (by omega),if_pos (by simpa using hp)]
 ·refine Ev.ends (fun k=>?_);simp only[lF.l0];rw[if_neg (by omega)]
theorem IS (l:List ai) (nm:ByteArray) (h:l.length≤1048576):Ev (fun k=>lG.f k l nm) (nameAt l nm):=by
 refine Ev.congr (fun k=>?_) (jN (fun i k=>lG.l0 k l nm (i:Int)) l.length _ _ _ (fun i r hi hp h=>?_) (fun i hi hp=>?_) ?_)
 ·simp only[lG.f];rfl
 ·refine Ev.step (fun k=>?_) h;simp only[lG.l0];rw[if_pos (by omega),if_pos (by omega),if_neg (by simpa using hp),ca (n:=l.length) hi (by omega)]
 ·refine Ev.ends (fun k=>?_);simp only[lG.l0];rw[if_pos (by omega),if_pos (by omega),if_pos (by simpa using hp)]
 ·refine Ev.ends (fun k=>?_);simp only[lG.l0];rw[if_neg (by omega)]
theorem AE {ds:List ak} {ns ss:List ai} {nx:Int} (h:cN ds ns ss nx=true) (nm:ByteArray) :
 (nameAt ns nm = -1∧ie ns nm=0)∨(∃j m,j<ns.length∧nameAt ns nm=(j:Int)∧ie ns nm=(aq ns (j:Int)).f1∧ie ns nm≠0∧m<ds.length∧jJ ds (aq ns (j:Int)).f1=(m:Int)∧eB nm=true):=by
 obtain⟨hi,h1,_⟩:=BP h;unfold nameAt ie
 rcases xX (fun i=>decide ((aq ns (i:Int)).f0.toList=nm.toList)) ns.length 0 with ⟨j,_,j2,j3,j4⟩|⟨_,j2⟩
 ·right;obtain⟨e1,e2⟩:=Px h1 j (by omega);obtain⟨m,m1,m2,m3⟩:=NA e2;have hp:=(Nz (uy hi m m1)).1;refine⟨j,m,by omega,j4 _ _,j4 _ _,?_,m1,m2,?_⟩
  ·rw[j4,←m3];omega
  ·rw[←RL (of_decide_eq_true j3)];exact e1
 ·left;exact⟨j2 _ _,j2 _ _⟩
def jW (ok:Bool) (ns:List ai) (nm:ByteArray):Int:=if (ok&&eB nm)=true then (if nameAt ns nm<0 then 2 else 0) else 1
theorem Qt (ds:List ak) (ns ss:List ai) (nx:Int) (nm:ByteArray) (hn:nm.size≤9223372036854775807) (h:Small ds ns ss):Ev (fun k=>lH.f k ds ns ss nx nm) (jW (cN ds ns ss nx) ns nm):=by
 obtain⟨K1,e1⟩:=h.spec nx;obtain⟨K2,e2⟩:=EI nm hn;obtain⟨K3,e3⟩:=IS ns nm h.h1;dsimp only at e1 e2 e3;refine⟨K1+K2+K3+1,fun k hk=>?_⟩;obtain⟨q,rfl⟩:∃q,k=q+1:=⟨k-1,by omega⟩;simp only[lH.f];rw[e1 _ (by omega),Option.bind_some];unfold jW;cases cN ds ns ss nx
 ·rw[if_neg (by decide),Bool.false_and,if_neg (by decide)];simp only[lH.j0];rfl
 rw[if_pos rfl,e2 _ (by omega),Option.bind_some,Bool.true_and];simp only[lH.j0];cases eB nm
 ·rfl
 ·rw[if_neg (by decide),if_pos rfl,e3 _ (by omega),Option.bind_some];split<;>rfl
abbrev Fo:=Nat→List ak→List ai→List ai→Int→Option lp
def uA (ds:List ak) (ns ss:List ai) (nx:Int) (names:List ByteArray) (there:Bool) (R:lp):lp:=
 if (there&&ie ns (mc ByteArray.empty names 0) == 0)=true then (ds,ns,ss,nx,2) else if R.2.2.2.2=0 then kj ds ns ss nx R.1 R.2.1 R.2.2.1 R.2.2.2.1 else (ds,ns,ss,nx,R.2.2.2.2)
def uo (ds:List ak) (ns ss:List ai) (nx:Int) (names:List ByteArray) (there:Bool) (R:lp):lp:=
 if cN ds ns ss nx=true then (if names.all eB=true then uA ds ns ss nx names there R else (ds,ns,ss,nx,1)) else (ds,ns,ss,nx,1)
theorem GI (mdo:Fo) (ds:List ak) (ns ss:List ai) (nx:Int) (R:lp) (h:Small ds ns ss) (hm:Ev (fun k=>mdo k ds ns ss nx) R∧(R.2.2.2.2=0→Small R.1 R.2.1 R.2.2.1)) :
 Ev (fun k=>cC.j1 mdo k false ds ns ss nx ds ns ss nx) (if R.2.2.2.2=0 then kj ds ns ss nx R.1 R.2.1 R.2.2.1 R.2.2.2.1 else (ds,ns,ss,nx,R.2.2.2.2)):=by
 refine Ev.step (f:=fun k=>(mdo k ds ns ss nx).bind fun t=>(if t.2.2.2.2=0 then (cC.l1 mdo k [] t.1 (t.1.length:Int) 0 ds ns ss nx t.1 t.2.1 t.2.2.1 t.2.2.2.1) else ((iA.f k ds ns ss nx).bind fun b=>(some (b.1,b.2.1,b.2.2.1,b.2.2.2,t.2.2.2.2))))) (fun k=>?_) (Ev.bind' hm.1 ?_)
 ·simp only[cC.j1,Bool.false_eq_true,if_false]
 ·by_cases hc:R.2.2.2.2=0
  ·simp only[hc,if_true];exact Qj mdo ds ns ss nx R.1 R.2.1 R.2.2.1 R.2.2.2.1 R.1 h (hm.2 hc)
  ·simp only[hc,if_false];exact Ev.bind' (h.Ao nx) (Ev.now _)
theorem Qh (mdo:Fo) (ds:List ak) (ns ss:List ai) (nx:Int) (names:List ByteArray) (there:Bool) (R:lp) (h:Small ds ns ss) (hl:names.length≤2) (hz:∀nm ∈ names,nm.size≤9223372036854775807) (hth:there=true→0<names.length)
 (hm:cN ds ns ss nx=true→names.all eB=true→(there=true→ie ns (mc ByteArray.empty names 0)≠0)→Ev (fun k=>mdo k ds ns ss nx) R∧(R.2.2.2.2=0→Small R.1 R.2.1 R.2.2.1)):Ev (fun k=>cC.f mdo k ds ns ss nx names there) (uo ds ns ss nx names there R):=by
 unfold cC.f uo;refine Ev.bind' (h.Ao nx) ?_;refine Ev.bind' (h.impl nx) ?_;cases hok:cN ds ns ss nx
 ·simp only[Bool.false_eq_true,if_false];exact Ev.now _
 simp only[if_true]
 have key:∀(d i:Nat),i+d=names.length→((names.drop i).all eB=true→names.all eB=true)→Ev (fun k=>cC.l0 mdo k names there names (names.length:Int) (i:Int) ds ns ss nx ds ns ss nx) (if (names.drop i).all eB=true then uA ds ns ss nx names there R else (ds,ns,ss,nx,1)):=by
  intro d
  induction d with
  |zero=>
   intro i hi hall;have e:names.drop i=[]:=List.drop_eq_nil_of_le (by omega);rw[e]at hall ⊢;have hall:=hall rfl;rw[if_pos (show ([]:List ByteArray).all eB=true from rfl)];unfold uA;cases there with
   |false=>
    rw[Bool.false_and,if_neg (by decide)];refine Ev.step (f:=fun k=>cC.j1 mdo k false ds ns ss nx ds ns ss nx) (fun k=>?_) (GI mdo ds ns ss nx R h (hm hok hall (fun h=>by simp at h)));simp only[cC.l0];rw[if_neg (by omega),if_neg (by decide)]
   |true=>
    rw[Bool.true_and];obtain⟨K,e1⟩:=GG ds ns ss nx (mc ByteArray.empty names 0) h.h1;have hpos:=hth rfl;dsimp only at e1;refine Ev.round (f:=fun k=>cC.j1 mdo k (ie ns (mc ByteArray.empty names 0) == 0) ds ns ss nx ds ns ss nx) ⟨K,fun k hk=>?_⟩ ?_
    ·simp only[cC.l0];rw[if_neg (by omega),if_pos trivial,if_pos (by omega),e1 k hk,Option.bind_some]
    ·by_cases hc:ie ns (mc ByteArray.empty names 0)=0
     ·rw[hc];refine Ev.ends (fun k=>?_);simp only[cC.j1];rfl
     ·rw[beq_eq_false_iff_ne.2 hc,if_neg (by decide)];exact GI mdo ds ns ss nx R h (hm hok hall (fun _=>hc))
  |succ d ih=>
   intro i hi hall;have hil:i<names.length:=by omega
   have ed:names.drop i=names[i]::names.drop (i+1):=List.drop_eq_getElem_cons hil
   have er:mc ByteArray.empty names (i:Int)=names[i]:=by
    show names.getD i ByteArray.empty=_;rw[List.getD_eq_getElem?_getD,List.getElem?_eq_getElem hil];rfl
   obtain⟨K1,e1⟩:=GJ names[i] (hz _ (List.getElem_mem hil));dsimp only at e1;rw[ed,List.all_cons]at hall ⊢;cases hno:eB names[i] with
   |false=>
    rw[Bool.false_and,if_neg (by decide)];refine Ev.round (f:=fun k=>some (ds,ns,ss,nx,1)) ⟨K1,fun k hk=>?_⟩ (Ev.now _);simp only[cC.l0];rw[if_pos (by omega),if_pos (by omega),if_pos (by omega),er,e1 k hk,Option.bind_some,hno,if_neg (by decide)]
   |true=>
    rw[hno,Bool.true_and]at hall;rw[Bool.true_and];refine Ev.round (f:=fun k=>cC.l0 mdo k names there names (names.length:Int) ((i+1:Nat):Int) ds ns ss nx ds ns ss nx) ⟨K1,fun k hk=>?_⟩ (ih (i+1) (by omega) hall);simp only[cC.l0];rw[if_pos (by omega),if_pos (by omega),if_pos (by omega),er,e1 k hk,Option.bind_some,hno,if_pos rfl,ca (n:=names.length) hil (by omega)]
 have:=key names.length 0 (by omega) (fun h=>h);rw[List.drop_zero]at this;exact this
theorem Xd (ds:List ak) (ns ss:List ai) (nx:Int) (nm:ByteArray) (R:lp):uo ds ns ss nx [nm] true R=if jW (cN ds ns ss nx) ns nm=0 then (if R.2.2.2.2=0 then kj ds ns ss nx R.1 R.2.1 R.2.2.1 R.2.2.2.1 else (ds,ns,ss,nx,R.2.2.2.2)) else (ds,ns,ss,nx,jW (cN ds ns ss nx) ns nm):=by
 unfold uo uA jW;have e0:mc ByteArray.empty [nm] 0=nm:=rfl;rw[e0,List.all_cons,List.all_nil,Bool.and_true,Bool.true_and];cases hok:cN ds ns ss nx
 ·simp
 ·rw[Bool.true_and,if_pos rfl];cases hno:eB nm
  ·simp
  ·rw[if_pos rfl,if_pos rfl]
   rcases AE hok nm with ⟨c1,c2⟩|⟨j,m,c1,c2,c3,c4,_⟩
   ·rw[c2,if_pos (by decide),if_pos (show nameAt ns nm<0 by omega),if_neg (by decide)]
   ·rw[beq_eq_false_iff_ne.2 c4,if_neg (by decide),if_neg (show ¬nameAt ns nm<0 by omega),if_pos rfl]
theorem Pr {ds:List ak} {ns ss:List ai} {nx:Int} {nm:ByteArray} (hok:cN ds ns ss nx=true) (hid:ie ns nm≠0):∃j m,j<ns.length∧nameAt ns nm=(j:Int)∧ie ns nm=(aq ns (j:Int)).f1∧m<ds.length∧jJ ds (ie ns nm)=(m:Int):=by
 rcases AE hok nm with ⟨c1,c2⟩|⟨j,m,c1,c2,c3,c4,c5,c6,_⟩
 ·exact absurd c2 hid
 ·exact⟨j,m,c1,c2,c3,c5,by rw[c3];exact c6⟩
theorem alp (n:Int) (h0:0≤n) (h1:n<2 ^ 63):IntKind.i64.wrap n=n:=by rw[IntKind.wrap_i64];omega
theorem abL {x:Int} (h0:0≤x) (h1:x<9223372036854775808):Go.bits .and .i64 x 127=x % 128:=by
 have h:=bits_mask .i64 63 (by decide) alp 7 (by decide) x h0 (by omega);simpa using h
theorem aHA {y:Int} (lD:0≤y) (hy:y<128):Go.bits .or .i64 y 128=y+128:=by
 obtain⟨b,rfl⟩:=Int.eq_ofNat_of_zero_le lD;have h:=(bits_nat .i64 63 (by decide) alp b 128 (by omega) (by decide)).2;have h2:=Nat.two_pow_add_eq_or_of_lt (i:=7) (b:=b) (by omega) 1;rw[Nat.or_comm]at h2;have h3:Go.bits .or .i64 ((b:Nat):Int) 128=((b ||| 128:Nat):Int):=h;have h4:(b ||| 128:Nat)=128+b:=by simpa using h2.symm
 rw[h3,h4];omega
theorem akW {x:Int} {s:Int} (j:Nat) (hs:s=(j:Int)) (hj:j≤64):shr .i64 x s=x / 2 ^ j:=by
 subst hs;unfold shr;rw[Int.toNat_natCast,Nat.min_eq_left (by simpa[IntKind.bits] using hj)]
def GW (n:Int):List Int:=
 if n<128 then [n % 128] else if n<16384 then [n / 128 % 128+128,n % 128] else if n<2097152 then [n / 16384 % 128+128,n / 128 % 128+128,n % 128]
 else if n<268435456 then [n / 2097152 % 128+128,n / 16384 % 128+128,n / 128 % 128+128,n % 128]
 else [n / 268435456 % 128+128,n / 2097152 % 128+128,n / 16384 % 128+128,n / 128 % 128+128,n % 128]
theorem aax (n:Int):1≤(GW n).length∧(GW n).length≤5:=by unfold GW;(repeat' split)<;>simp
def wR (n:Int):Int:=if n>1000000000 then 1000000000 else if n<0 then 0 else n
theorem aok (n:Int):0≤wR n∧wR n≤1000000000:=by unfold wR;(repeat' split)<;>omega
theorem aHe (n:Int) (h0:0≤n) (h1:n≤1000000000) (q:Nat) (out:List Int) (ho:out.length<140737488355328) (s:Nat) (kR:0<s) (hs:s≤28) :
 lv.l1 (q+1) out n (s:Int)=lv.l1 q (out++[n / 2 ^ s % 128+128]) n ((s:Int)-7):=by
 have hp:0≤n / 2 ^ s∧n / 2 ^ s≤n:=⟨Int.ediv_nonneg h0 (Int.le_of_lt (Int.pow_pos (by decide))),Int.ediv_le_self _ h0⟩;simp only[lv.l1];rw[if_pos (by omega),if_pos (by omega),if_pos ho,akW s rfl (by omega),abL hp.1 (by omega),fj (by omega) (by omega),fj (by omega) (by omega)];congr 3;omega
theorem aHc (n:Int) (h0:0≤n) (h1:n≤1000000000) (q:Nat) (out:List Int) (ho:out.length<140737488355328):lv.l1 (q+1) out n 0=some (out++[n % 128]):=by
 simp only[lv.l1];rw[if_neg (by omega),if_pos ho,abL h0 (by omega)];congr 3;omega
theorem aHd (n:Int) (h0:0≤n) (h1:n≤1000000000) (q:Nat) (out:List Int) (s:Nat) (hs:s≤28) :
 lv.l0 (q+1) out n (s:Int)=if n / 2 ^ s>127 then lv.l0 q out n ((s+7:Nat):Int) else lv.l1 q out n (s:Int):=by
 simp only[lv.l0];rw[if_pos (by omega),akW s rfl (by omega),fj (i:=(s:Int)+7) (by omega) (by omega)];rfl
theorem aG9 (n:Int) (out:List Int) (ho:out.length+5<140737488355328) (q:Nat):lv.f (q+12) out n=some (out++GW (wR n)):=by
 have hc:=aok n;have e:mx 0 (mn n 1000000000)=wR n:=by unfold mx mn wR;(repeat' split)<;>omega
 unfold lv.f;rw[e];generalize wR n=m at hc
 obtain⟨h0,h1⟩:=hc;have l1:=fun q out ho s kR hs=>aHe m h0 h1 q out ho s kR hs
 have l0:=fun q out s hs=>aHd m h0 h1 q out s hs
 have en:=fun q out ho=>aHc m h0 h1 q out ho
 unfold GW;rw[show (0:Int)=((0:Nat):Int) from rfl,l0 (q+11) out 0 (by omega)];by_cases c1:m<128
 ·rw[if_neg (by omega),if_pos c1];exact en (q+10) out (by omega)
 rw[if_pos (by omega),if_neg c1,l0 (q+10) out 7 (by omega)];by_cases c2:m<16384
 ·rw[if_neg (by omega),if_pos c2,l1 (q+9) out (by omega) 7 (by omega) (by omega)];have:=en (q+8) (out++[m / 2 ^ 7 % 128+128]) (by simp;omega);simpa using this
 rw[if_pos (by omega),if_neg c2,l0 (q+9) out 14 (by omega)];by_cases c3:m<2097152
 ·rw[if_neg (by omega),if_pos c3,l1 (q+8) out (by omega) 14 (by omega) (by omega)];have a:=l1 (q+7) (out++[m / 2 ^ 14 % 128+128]) (by simp;omega) 7 (by omega) (by omega);have b:=en (q+6) ((out++[m / 2 ^ 14 % 128+128])++[m / 2 ^ 7 % 128+128]) (by simp;omega);have a':lv.l1 (q+8) (out++[m / 2 ^ 14 % 128+128]) m (((14:Nat):Int)-7)=_:=a;rw[a'];have b':lv.l1 (q+7) ((out++[m / 2 ^ 14 % 128+128])++[m / 2 ^ 7 % 128+128]) m (((7:Nat):Int)-7)=_:=b;rw[b'];simp
 rw[if_pos (by omega),if_neg c3,l0 (q+8) out 21 (by omega)];by_cases c4:m<268435456
 ·rw[if_neg (by omega),if_pos c4,l1 (q+7) out (by omega) 21 (by omega) (by omega)];have a:=l1 (q+6) (out++[m / 2 ^ 21 % 128+128]) (by simp;omega) 14 (by omega) (by omega);have b:=l1 (q+5) ((out++[m / 2 ^ 21 % 128+128])++[m / 2 ^ 14 % 128+128]) (by simp;omega) 7 (by omega) (by omega);have c:=en (q+4) (((out++[m / 2 ^ 21 % 128+128])++[m / 2 ^ 14 % 128+128])++[m / 2 ^ 7 % 128+128]) (by simp;omega);have a':lv.l1 (q+7) (out++[m / 2 ^ 21 % 128+128]) m (((21:Nat):Int)-7)=_:=a;rw[a'];have b':lv.l1 (q+6) ((out++[m / 2 ^ 21 % 128+128])++[m / 2 ^ 14 % 128+128]) m (((14:Nat):Int)-7)=_:=b;rw[b'];have c':lv.l1 (q+5) (((out++[m / 2 ^ 21 % 128+128])++[m / 2 ^ 14 % 128+128])++[m / 2 ^ 7 % 128+128]) m (((7:Nat):Int)-7)=_:=c;rw[c'];simp
 rw[if_pos (by omega),if_neg c4,l0 (q+7) out 28 (by omega),if_neg (by omega),l1 (q+6) out (by omega) 28 (by omega) (by omega)];have a:=l1 (q+5) (out++[m / 2 ^ 28 % 128+128]) (by simp;omega) 21 (by omega) (by omega);have b:=l1 (q+4) ((out++[m / 2 ^ 28 % 128+128])++[m / 2 ^ 21 % 128+128]) (by simp;omega) 14 (by omega) (by omega);have c:=l1 (q+3) (((out++[m / 2 ^ 28 % 128+128])++[m / 2 ^ 21 % 128+128])++[m / 2 ^ 14 % 128+128]) (by simp;omega) 7 (by omega) (by omega);have d:=en (q+2) ((((out++[m / 2 ^ 28 % 128+128])++[m / 2 ^ 21 % 128+128])++[m / 2 ^ 14 % 128+128])++[m / 2 ^ 7 % 128+128]) (by simp;omega);have a':lv.l1 (q+6) (out++[m / 2 ^ 28 % 128+128]) m (((28:Nat):Int)-7)=_:=a;rw[a'];have b':lv.l1 (q+5) ((out++[m / 2 ^ 28 % 128+128])++[m / 2 ^ 21 % 128+128]) m (((21:Nat):Int)-7)=_:=b;rw[b'];have c':lv.l1 (q+4) (((out++[m / 2 ^ 28 % 128+128])++[m / 2 ^ 21 % 128+128])++[m / 2 ^ 14 % 128+128]) m (((14:Nat):Int)-7)=_:=c;rw[c'];have d':lv.l1 (q+3) ((((out++[m / 2 ^ 28 % 128+128])++[m / 2 ^ 21 % 128+128])++[m / 2 ^ 14 % 128+128])++[m / 2 ^ 7 % 128+128]) m (((7:Nat):Int)-7)=_:=d;rw[d'];simp
theorem aHa (n:Int) (out:List Int) (ho:out.length+5<140737488355328):Ev (fun k=>lv.f k out n) (out++GW (wR n)):=
 ⟨12,fun k hk=>by obtain⟨q,rfl⟩:∃q,k=q+12:=⟨k-12,by omega⟩;exact aG9 n out ho q⟩
theorem wrap_u64 (s:Nat) (h:s≤64):IntKind.u64.wrap ((s:Nat):Int)=(s:Int):=by
 simp only[IntKind.wrap,IntKind.bits,IntKind.signed];simp;omega
theorem aHZ (n:Int) (h0:0≤n) (h1:n≤1000000000) (q:Nat) (out:List Int) (ho:out.length<140737488355328) (hi:Bool) (s:Nat) (kR:0<s) (hs:s≤28) :
 iO.l0 (q+2) n out hi (s:Int)=if hi=true∨n / 2 ^ s % 128>0 then iO.l0 q n (out++[n / 2 ^ s % 128+128]) true ((s:Int)-7) else iO.l0 q n out hi ((s:Int)-7):=by
 have hp:0≤n / 2 ^ s∧n / 2 ^ s≤n:=⟨Int.ediv_nonneg h0 (Int.le_of_lt (Int.pow_pos (by decide))),Int.ediv_le_self _ h0⟩
 have hj:∀c:Bool,iO.j3 (q+1) n out hi (s:Int) (n / 2 ^ s % 128) c=if c=true then iO.l0 q n (out++[n / 2 ^ s % 128+128]) true ((s:Int)-7) else iO.l0 q n out hi ((s:Int)-7):=by
  intro c;simp only[iO.j3];rw[aHA (by omega) (by omega),fj (i:=(s:Int)-7) (by omega) (by omega),if_pos ho];have e:(n / 2 ^ s % 128+128) % 256=n / 2 ^ s % 128+128:=by omega
  rw[e]
 simp only[iO.l0];rw[if_pos (by omega),wrap_u64 s (by omega),if_pos (by omega),akW s rfl (by omega),abL hp.1 (by omega),hj,hj];cases hi with
 |true=>rw[if_pos rfl,if_pos rfl,if_pos (.inl rfl)]
 |false=>
  rw[if_neg (by simp)];by_cases hg:n / 2 ^ s % 128>0
  ·rw[if_pos (decide_eq_true hg),if_pos (.inr hg)]
  ·rw[if_neg (by simp;omega),if_neg (by simp;omega)]
theorem aHY (n:Int) (h0:0≤n) (h1:n≤1000000000) (q:Nat) (out:List Int) (hi:Bool) (ho:out.length<140737488355328):iO.l0 (q+1) n out hi 0=some (out++[n % 128]):=by
 simp only[iO.l0];rw[if_neg (by omega),if_pos ho,abL h0 (by omega)];congr 3;omega
def iN (n:Int) (out:List Int) (hi:Bool) (s:Nat):List Int × Bool:=if hi=true∨n / 2 ^ s % 128>0 then (out++[n / 2 ^ s % 128+128],true) else (out,hi)
theorem adu (n:Int) (h0:0≤n) (h1:n≤1000000000) (q:Nat) (out:List Int) (ho:out.length<140737488355328) (hi:Bool) (s t:Nat) (kR:0<s) (hs:s≤28) (ht:t+7=s) :
 iO.l0 (q+2) n out hi (s:Int)=iO.l0 q n (iN n out hi s).1 (iN n out hi s).2 (t:Int):=by
 rw[aHZ n h0 h1 q out ho hi s kR hs];have e:(s:Int)-7=(t:Int):=by omega
 rw[e];unfold iN;split<;>rfl
theorem adt (n:Int) (out:List Int) (hi:Bool) (s:Nat):(iN n out hi s).1.length≤out.length+1:=by unfold iN;split<;>simp
theorem aHX (n:Int) (h0:0≤n) (h1:n≤1000000000) (q:Nat) (out:List Int) (ho:out.length+5<140737488355328):iO.l0 (q+9) n out false 28=some (out++GW n):=by
 have l1:=adt n out false 28;have l2:=adt n (iN n out false 28).1 (iN n out false 28).2 21;have l3:=adt n (iN n (iN n out false 28).1 (iN n out false 28).2 21).1 (iN n (iN n out false 28).1 (iN n out false 28).2 21).2 14;have l4:=adt n (iN n (iN n (iN n out false 28).1 (iN n out false 28).2 21).1 (iN n (iN n out false 28).1 (iN n out false 28).2 21).2 14).1 (iN n (iN n (iN n out false 28).1 (iN n out false 28).2 21).1 (iN n (iN n out false 28).1 (iN n out false 28).2 21).2 14).2 7;have e1:iO.l0 (q+9) n out false 28=_:=adu n h0 h1 (q+7) out (by omega) false 28 21 (by omega) (by omega) rfl;rw[e1,adu n h0 h1 (q+5) _ (by omega) _ 21 14 (by omega) (by omega) rfl,adu n h0 h1 (q+3) _ (by omega) _ 14 7 (by omega) (by omega) rfl,adu n h0 h1 (q+1) _ (by omega) _ 7 0 (by omega) (by omega) rfl];have e2:=aHY n h0 h1 q (iN n (iN n (iN n (iN n out false 28).1 (iN n out false 28).2 21).1 (iN n (iN n out false 28).1 (iN n out false 28).2 21).2 14).1 (iN n (iN n (iN n out false 28).1 (iN n out false 28).2 21).1 (iN n (iN n out false 28).1 (iN n out false 28).2 21).2 14).2 7).1 (iN n (iN n (iN n (iN n out false 28).1 (iN n out false 28).2 21).1 (iN n (iN n out false 28).1 (iN n out false 28).2 21).2 14).1 (iN n (iN n (iN n out false 28).1 (iN n out false 28).2 21).1 (iN n (iN n out false 28).1 (iN n out false 28).2 21).2 14).2 7).2 (by omega);refine Eq.trans e2 ?_;congr 1;clear l1 l2 l3 l4 e1 e2;have t (hi:Bool) (o:List Int) (s:Nat) (h:n / 2 ^ s % 128>0):iN n o hi s=(o++[n / 2 ^ s % 128+128],true):=by unfold iN;rw[if_pos (.inr h)]
 have f (o:List Int) (s:Nat) (h:¬n / 2 ^ s % 128>0):iN n o false s=(o,false):=by unfold iN;rw[if_neg (by simp;omega)]
 have y (o:List Int) (s:Nat):iN n o true s=(o++[n / 2 ^ s % 128+128],true):=by unfold iN;rw[if_pos (.inl rfl)]
 unfold GW;by_cases c1:n<128
 ·rw[if_pos c1,f _ 28 (by omega),f _ 21 (by omega),f _ 14 (by omega),f _ 7 (by omega)]
 rw[if_neg c1];by_cases c2:n<16384
 ·rw[if_pos c2,f _ 28 (by omega),f _ 21 (by omega),f _ 14 (by omega),t _ _ 7 (by omega)];simp
 rw[if_neg c2];by_cases c3:n<2097152
 ·rw[if_pos c3,f _ 28 (by omega),f _ 21 (by omega),t _ _ 14 (by omega),y];simp
 rw[if_neg c3];by_cases c4:n<268435456
 ·rw[if_pos c4,f _ 28 (by omega),t _ _ 21 (by omega),y,y];simp
 rw[if_neg c4,t _ _ 28 (by omega),y,y,y];simp
theorem aHW (n:Int) (xs:List Int) (ho:xs.length+5<140737488355328):Ev (fun k=>iO.f k xs n) (xs++GW (wR n)):=by
 refine⟨12,fun k hk=>?_⟩;obtain⟨q,rfl⟩:∃q,k=q+12:=⟨k-12,by omega⟩;have hc:=aok n;have ha:=aHX (wR n) hc.1 hc.2;dsimp only;simp only[iO.f,Option.bind_some,List.nil_append,List.length_nil];rw[if_pos (by omega)]
 have hj:∀m,iO.j0 (q+12) m xs=iO.l0 (q+10) (if m<0 then 0 else m) xs false 28:=by
  intro m;simp only[iO.j0];split<;>simp only[iO.j1]
 rw[hj,hj];unfold wR at ha ⊢;by_cases h1:n>1000000000
 ·rw[if_pos h1]at ha ⊢;rw[if_pos h1,if_neg (by omega)];exact ha (q+1) xs ho
 ·rw[if_neg h1]at ha ⊢;rw[if_neg h1];exact ha (q+1) xs ho
def Jm (b:List Int):Prop:=∀i:Int,0≤rd b i∧rd b i≤255
theorem ayF {b:List Int} (h:∀x ∈ b,(Lit.int .u8 x).wf=true):Jm b:=by
 intro i;unfold rd;rw[List.getD_eq_getElem?_getD];cases e:b[i.toNat]? with
 |none=>simp
 |some x=>exact wf_u8 (h x (List.mem_of_getElem? e))
theorem aop {b:List Int} {i:Nat} (h:i<b.length):b.drop i=rd b (i:Int)::b.drop (i+1):=by
 rw[List.drop_eq_getElem_cons h,EG,List.getD_eq_getElem?_getD,List.getElem?_eq_getElem h];rfl
theorem ofInt64 (a:Nat) (ha:a<18446744073709551616):(BitVec.ofInt 64 (a:Int)).toNat=a:=by
 rw[BitVec.ofInt_natCast,BitVec.toNat_ofNat];exact Nat.mod_eq_of_lt (by omega)
theorem ofInt32 (a:Nat) (ha:a<4294967296):(BitVec.ofInt 32 (a:Int)).toNat=a:=by
 rw[BitVec.ofInt_natCast,BitVec.toNat_ofNat];exact Nat.mod_eq_of_lt (by omega)
theorem alv (a b:Nat) (ha:a<4294967296) (hb:b<4294967296):Go.bits .xor .i64 (a:Int) (b:Int)=((a ^^^ b:Nat):Int):=by
 have hx:a ^^^ b<2 ^ 32:=Nat.xor_lt_two_pow (by omega) (by omega);show IntKind.i64.wrap ((BitVec.ofInt 64 (a:Int) ^^^ BitVec.ofInt 64 (b:Int)).toNat:Int)=_;rw[BitVec.toNat_xor,ofInt64 a (by omega),ofInt64 b (by omega),IntKind.wrap_i64];omega
theorem alw (a b:Nat) (ha:a<4294967296) (hb:b<4294967296):Go.bits .xor .u32 (a:Int) (b:Int)=((a ^^^ b:Nat):Int):=by
 have hx:a ^^^ b<2 ^ 32:=Nat.xor_lt_two_pow (by omega) (by omega);show IntKind.u32.wrap ((BitVec.ofInt 32 (a:Int) ^^^ BitVec.ofInt 32 (b:Int)).toNat:Int)=_;rw[BitVec.toNat_xor,ofInt32 a ha,ofInt32 b hb,IntKind.wrap_u32];omega
theorem aIX (a:Nat) (v:Int) (ha:a<4294967296) (h0:0≤v) (h1:v<4294967296):Go.bits .xor .i64 (a:Int) v=((a ^^^ v.toNat:Nat):Int):=by
 obtain⟨c,rfl⟩:=Int.eq_ofNat_of_zero_le h0;simpa using alv a c ha (by omega)
theorem ayz (a:Nat) (ha:a<4294967296):Go.bits .and .i64 (a:Int) 1=((a % 2:Nat):Int):=by
 have h:=bits_mask .i64 63 (by decide) alp 1 (by decide) (a:Int) (by omega) (by omega);have h2:Go.bits .and .i64 (a:Int) 1=(a:Int) % 2:=by simpa using h
 rw[h2];omega
theorem aIM (n:Int) (h0:0≤n) (h1:n<2 ^ 32):IntKind.u32.wrap n=n:=by rw[IntKind.wrap_u32];omega
theorem ayA (a:Nat) (ha:a<4294967296):Go.bits .and .u32 (a:Int) 1=((a % 2:Nat):Int):=by
 have h:=bits_mask .u32 32 (by decide) aIM 1 (by decide) (a:Int) (by omega) (by omega);have h2:Go.bits .and .u32 (a:Int) 1=(a:Int) % 2:=by simpa using h
 rw[h2];omega
def J5 (x:Nat):Nat:=if x % 2=1 then x / 2 ^^^ 2197175160 else x / 2
def Xl:Nat→Nat→Nat
 |0,x=>x
 |n+1,x=>Xl n (J5 x)
def azk (x c:Nat):Nat:=Xl 8 (x ^^^ c)
def ab3:List Int→Nat→Nat
 |[],x=>x
 |c::l,x=>ab3 l (azk x c.toNat)
def aaB (l:List Int):Int:=((ab3 l 4294967295 ^^^ 4294967295:Nat):Int)
theorem aen {a b:Nat} (ha:a<4294967296) (hb:b<4294967296):a ^^^ b<4294967296:=by
 have:=Nat.xor_lt_two_pow (n:=32) (x:=a) (y:=b) (by omega) (by omega);omega
theorem agK {x:Nat} (h:x<4294967296):J5 x<4294967296:=by
 unfold J5;split
 ·exact aen (by omega) (by omega)
 ·omega
theorem agL:∀(n:Nat) {x:Nat},x<4294967296→Xl n x<4294967296
 |0,_,h=>h
 |n+1,_,h=>agL n (agK h)
theorem aH2 (b:List Int) (i:Nat) (r:Int) (hi:i<281474976710656):∀(d x j:Nat),j+d=8→x<4294967296→Ev (fun q=>pN.l0 q b ((Xl d x:Nat):Int) ((i+1:Nat):Int)) r →
 Ev (fun q=>pN.l1 q b (x:Int) (i:Int) (j:Int)) r:=by
 intro d
 induction d with
 |zero=>
  intro x j hj hx h;refine Ev.step (f:=fun q=>pN.l0 q b (x:Int) ((i+1:Nat):Int)) (fun q=>?_) h;simp only[pN.l1];rw[if_neg (by omega),fj (i:=(i:Int)+1) (by omega) (by omega)];rfl
 |succ d ih=>
  intro x j hj hx h;refine Ev.step (f:=fun q=>pN.l1 q b ((J5 x:Nat):Int) (i:Int) ((j+1:Nat):Int)) (fun q=>?_) (ih (J5 x) (j+1) (by omega) (agK hx) h);simp only[pN.l1];have hd:(x:Int) / 2=((x / 2:Nat):Int):=by omega
  rw[if_pos (by omega),ayz x hx,hd,fj (i:=(j:Int)+1) (by omega) (by omega)];have e2:(2197175160:Int)=((2197175160:Nat):Int):=rfl;rw[e2,alv (x / 2) 2197175160 (by omega) (by omega)];unfold J5;by_cases h1:x % 2=1
  ·rw[if_pos h1,if_pos (by omega)];rfl
  ·rw[if_neg h1,if_neg (by omega)];rfl
theorem aH1 (b:List Int) (hb:Jm b) (hn:b.length<281474976710656):∀(d x i:Nat),i+d=b.length→x<4294967296→Ev (fun q=>pN.l0 q b (x:Int) (i:Int)) ((ab3 (b.drop i) x ^^^ 4294967295:Nat):Int):=by
 intro d
 induction d with
 |zero=>
  intro x i hi hx;rw[List.drop_eq_nil_of_le (by omega)];refine Ev.step (f:=fun _=>some _) (fun q=>?_) (Ev.now _);simp only[pN.l0];rw[if_neg (by omega)];have e2:(4294967295:Int)=((4294967295:Nat):Int):=rfl;rw[e2,alv x 4294967295 hx (by omega)];rfl
 |succ d ih=>
  intro x i hi hx;have hc:=hb (i:Int);rw[aop (by omega)];have hy:x ^^^ (rd b (i:Int)).toNat<4294967296:=aen hx (by omega);refine Ev.step (f:=fun q=>pN.l1 q b ((x ^^^ (rd b (i:Int)).toNat:Nat):Int) (i:Int) ((0:Nat):Int)) (fun q=>?_) (aH2 b i _ (by omega) 8 _ 0 rfl hy (ih _ (i+1) (by omega) (agL 8 hy)));simp only[pN.l0];rw[if_pos (by omega),if_pos (by omega),fj (i:=rd b (i:Int)) (by omega) (by omega),aIX x _ hx (by omega) (by omega)];rfl
theorem aH0 (b:List Int) (hb:Jm b) (hn:b.length<281474976710656):Ev (fun q=>pN.f q b) (aaB b):=
 aH1 b hb hn b.length 4294967295 0 (by omega) (by omega)
theorem aHh (b:List Int) (n:Int) (i:Nat) (r:Int) (hi:i<281474976710656):∀(d x j:Nat),j+d=8→x<4294967296→Ev (fun q=>pL.l0 q ((Xl d x:Nat):Int) b n ((i+1:Nat):Int)) r →
 Ev (fun q=>pL.l1 q (x:Int) b n (i:Int) (j:Int)) r:=by
 intro d
 induction d with
 |zero=>
  intro x j hj hx h;refine Ev.step (f:=fun q=>pL.l0 q (x:Int) b n ((i+1:Nat):Int)) (fun q=>?_) h;simp only[pL.l1];rw[if_neg (by omega),fj (i:=(i:Int)+1) (by omega) (by omega)];rfl
 |succ d ih=>
  intro x j hj hx h;refine Ev.step (f:=fun q=>pL.l1 q ((J5 x:Nat):Int) b n (i:Int) ((j+1:Nat):Int)) (fun q=>?_) (ih (J5 x) (j+1) (by omega) (agK hx) h);simp only[pL.l1];have hd:(x:Int) / 2=((x / 2:Nat):Int):=by omega
  rw[if_pos (by omega),ayA x hx,hd,fj (i:=(j:Int)+1) (by omega) (by omega)];have e2:(2197175160:Int)=((2197175160:Nat):Int):=rfl;rw[e2,alw (x / 2) 2197175160 (by omega) (by omega)];unfold J5;by_cases h1:x % 2=1
  ·rw[if_pos h1,if_pos (by omega)];rfl
  ·rw[if_neg h1,if_neg (by omega)];rfl
theorem aHg (b:List Int) (hb:Jm b) (hn:b.length<281474976710656):∀(d x i:Nat),i+d=b.length→x<4294967296→Ev (fun q=>pL.l0 q (x:Int) b (b.length:Int) (i:Int)) ((ab3 (b.drop i) x ^^^ 4294967295:Nat):Int):=by
 intro d
 induction d with
 |zero=>
  intro x i hi hx;rw[List.drop_eq_nil_of_le (by omega)];refine Ev.step (f:=fun _=>some _) (fun q=>?_) (Ev.now _);simp only[pL.l0];rw[if_neg (by omega)];have e2:(4294967295:Int)=((4294967295:Nat):Int):=rfl;have hy:=aen (a:=4294967295) (b:=x) (by omega) hx;rw[e2,alw 4294967295 x (by omega) hx,fj (by omega) (by omega),Nat.xor_comm];rfl
 |succ d ih=>
  intro x i hi hx;have hc:=hb (i:Int);rw[aop (by omega)];have hcn:rd b (i:Int) % 4294967296=(((rd b (i:Int)).toNat:Nat):Int):=by omega
  have hy:x ^^^ (rd b (i:Int)).toNat<4294967296:=aen hx (by omega);refine Ev.step (f:=fun q=>pL.l1 q ((x ^^^ (rd b (i:Int)).toNat:Nat):Int) b (b.length:Int) (i:Int) ((0:Nat):Int)) (fun q=>?_) (aHh b _ i _ (by omega) 8 _ 0 rfl hy (ih _ (i+1) (by omega) (agL 8 hy)));simp only[pL.l0];rw[if_pos (by omega),if_pos (by omega),if_pos (by omega),hcn,alw x _ hx (by omega)];rfl
theorem aHf (b:List Int) (hb:Jm b) (hn:b.length<281474976710656):Ev (fun q=>pL.f q b) (aaB b):=
 aHg b hb hn b.length 4294967295 0 (by omega) (by omega)
def Mq (a:Int):List Int:=[a / 16777216 % 256,a / 65536 % 256,a / 256 % 256,a % 256]
def y8 (l:List Int):List Int:=Mq (aaB l)++(GW (wR (l.length:Int))++l)
theorem ahz (l:List Int):(y8 l).length=4+(GW (wR (l.length:Int))).length+l.length:=by
 unfold y8 Mq;simp;omega
theorem aHV (l:List Int) (hb:Jm l) (hn:l.length≤140737488000000):Ev (fun k=>RA.f k l) (y8 l):=by
 obtain⟨K1,h1⟩:=aH0 l hb (by omega);obtain⟨K2,h2⟩:=aHW (l.length:Int) (Mq (aaB l)) (by unfold Mq;simp);have hl:=aax (wR (l.length:Int));dsimp only at h1 h2;refine⟨K1+K2,fun k hk=>?_⟩;simp only[RA.f,RB.f];rw[h1 k (by omega),Option.bind_some,Option.bind_some];have h2:=h2 k (by omega);unfold Mq at h2;rw[h2,Option.bind_some,if_pos (by rw[List.length_append];simp;omega),List.append_assoc];rfl
theorem aHb (l:List Int) (hb:Jm l) (hn:l.length≤140737488000000):Ev (fun k=>Qk.f k l) (y8 l):=by
 obtain⟨K1,h1⟩:=aHf l hb (by omega);obtain⟨K2,h2⟩:=aHa (l.length:Int) (Mq (aaB l)) (by unfold Mq;simp);have hl:=aax (wR (l.length:Int));dsimp only at h1 h2;refine⟨K1+K2,fun k hk=>?_⟩;simp only[Qk.f,Ql.f];rw[h1 k (by omega),Option.bind_some,Option.bind_some];have h2:=h2 k (by omega);unfold Mq at h2;rw[h2,Option.bind_some,if_pos (by rw[List.length_append];simp;omega),List.append_assoc];rfl
def JO (ds:List ak) (m:Nat) (b:List Int):List ak:=ds.set m (⟨(aa ds (m:Int)).f0,(aa ds (m:Int)).f1++b,(aa ds (m:Int)).f2⟩:ak)
theorem Pf {ds:List ak} {ns ss:List ai} (h:Small ds ns ss) (hd:∀x ∈ ds,x.f1.length≤1048576) (m:Nat) (b:List Int) (hb:b.length≤1048600) (hm:m<ds.length):Small (JO ds m b) ns ss:=by
 refine⟨by unfold JO;rw[List.length_set];exact h.h0,fun x hx=>?_,h.h1,h.h2,h.z1,h.z2⟩
 rcases List.mem_or_eq_of_mem_set hx with h1|h1
 ·exact h.hd x h1
 ·rw[h1];show ((aa ds (m:Int)).f1++b).length≤4194304;rw[List.length_append];have:=hd _ (rZ hm);omega
def uj (ds:List ak) (ns ss:List ai) (nx:Int) (nm:ByteArray) (b:List Int):lp:=if jW (cN ds ns ss nx) ns nm=0 then kj ds ns ss nx (JO ds (jJ ds (ie ns nm)).toNat b) ns ss nx else (ds,ns,ss,nx,jW (cN ds ns ss nx) ns nm)
theorem Xc {ds:List ak} {ns ss:List ai} {nx:Int} {nm:ByteArray} (hc:jW (cN ds ns ss nx) ns nm=0):cN ds ns ss nx=true∧ie ns nm≠0:=by
 unfold jW at hc;cases hok:cN ds ns ss nx
 ·rw[hok]at hc;simp at hc
 ·refine⟨rfl,fun hid=>?_⟩
  rcases AE hok nm with ⟨c1,c2⟩|⟨j,m,c1,c2,c3,c4,_⟩
  ·rw[hok,Bool.true_and,if_pos (show nameAt ns nm<0 by omega)]at hc;split at hc<;>simp at hc
  ·exact c4 hid
theorem akY (ds:List ak) (ns ss:List ai) (nx:Int) (nm:ByteArray) (b:List Int) (hn:nm.size≤9223372036854775807) (h:Small ds ns ss) (hd:∀x ∈ ds,x.f1.length≤1048576) (hb:b.length≤1048600):Ev (fun k=>oq.f k ds ns ss nx nm b) (uj ds ns ss nx nm b):=by
 unfold oq.f uj;refine Ev.bind' (h.FQ nx) ?_;refine Ev.bind' (Qt ds ns ss nx nm hn h) ?_;by_cases hc:jW (cN ds ns ss nx) ns nm=0
 ·obtain⟨hok,hid⟩:=Xc hc;obtain⟨j,m,c1,c2,c3,c5,c6⟩:=Pr hok hid;simp only[hc,if_true];refine Ev.bind' (IS ns nm h.h1) ?_;have g1:(0≤nameAt ns nm)=True:=eq_true (by omega);have g2:(nameAt ns nm<(ns.length:Int))=True:=eq_true (by omega);simp only[g1,g2,if_true];refine Ev.bind' (KQ ds ns ss nx h.h0 _) ?_;rw[c2,←c3,c6];have g3:(0≤(m:Int))=True:=eq_true (by omega);have g4:((m:Int)<(ds.length:Int))=True:=eq_true (by omega);have g5:((aa ds (m:Int)).f1.length+b.length<140737488355328)=True:=eq_true (by have:=hd _ (rZ c5);omega);simp only[g3,g4,g5,if_true];exact Ev.bind' (Rz ds ns ss nx _ ns ss nx h (Pf h hd m b hb c5)) (Ev.now _)
 ·simp only[hc,if_false];exact Ev.now _
theorem aka (ds:List ak) (ns ss:List ai) (nx:Int) (nm:ByteArray) (h:Small ds ns ss) (m:Nat) (hm:m<ds.length) (hi:jJ ds (ie ns nm)=(m:Int)):Ev (fun k=>S5.f k ds ns ss nx nm) (m:Int):=by
 unfold S5.f;refine Ev.bind' (GG ds ns ss nx nm h.h1) ?_;refine Ev.bind' (KN ds ns ss nx h.h0 (ie ns nm)) ?_;rw[hi];have g3:(0≤(m:Int))=True:=eq_true (by omega);have g4:((m:Int)<(ds.length:Int))=True:=eq_true (by omega);simp only[g3,g4,if_true];exact Ev.now _
theorem aj9 (ds:List ak) (ns ss:List ai) (nx:Int) (nm:ByteArray) (b:List Int) (hn:nm.size≤9223372036854775807) (h:Small ds ns ss) (hd:∀x ∈ ds,x.f1.length≤1048576) (hb:b.length≤1048600):Ev (fun k=>rX.f k ds ns ss nx nm b) (uj ds ns ss nx nm b):=by
 unfold rX.f;refine Ev.bind' (Qh (pg.f nm b) ds ns ss nx [nm] true (JO ds (jJ ds (ie ns nm)).toNat b,ns,ss,nx,0) h (by simp) (fun x hx=>by rw[List.mem_singleton.1 hx];exact hn) (fun _=>by simp) (fun hok _ hid=>?_)) ?_
 ·obtain⟨j,m,_,_,_,c5,c6⟩:=Pr hok (show ie ns nm≠0 from hid rfl);rw[c6];refine⟨?_,fun _=>Pf h hd m b hb c5⟩;unfold pg.f;refine Ev.bind' (aka ds ns ss nx nm h m c5 c6) ?_;have g5:((aa ds (m:Int)).f1.length+b.length<140737488355328)=True:=eq_true (by have:=hd _ (rZ c5);omega);simp only[g5,if_true];exact Ev.now _
 ·rw[Xd];unfold uj;simp only[if_true];exact Ev.now _
theorem aHS (ds:List ak) (ns ss:List ai) (nx:Int) (nm:ByteArray) (b:List Int) (hn:nm.size≤9223372036854775807) (h:Small ds ns ss) (hd:∀x ∈ ds,x.f1.length≤1048576) (hi:Jm b) (hb:b.length≤1048576):Ev (fun k=>wg.f k ds ns ss nx nm b) (uj ds ns ss nx nm (y8 b)):=by
 have hl:=aax (wR (b.length:Int));have hL:(y8 b).length≤1048600:=by rw[ahz];omega
 unfold wg.f;exact Ev.bind' (aHV b hi (by omega)) (Ev.bind' (akY ds ns ss nx nm (y8 b) hn h hd hL) (Ev.now _))
theorem aG7 (ds:List ak) (ns ss:List ai) (nx:Int) (nm:ByteArray) (b:List Int) (hn:nm.size≤9223372036854775807) (h:Small ds ns ss) (hd:∀x ∈ ds,x.f1.length≤1048576) (hi:Jm b) (hb:b.length≤1048576):Ev (fun k=>qt.f k ds ns ss nx nm b) (uj ds ns ss nx nm (y8 b)):=by
 have hl:=aax (wR (b.length:Int));have hL:(y8 b).length≤1048600:=by rw[ahz];omega
 unfold qt.f;exact Ev.bind' (aHb b hi (by omega)) (Ev.bind' (aj9 ds ns ss nx nm (y8 b) hn h hd hL) (Ev.now _))
theorem avG:fw.Pure:=by
 intro x nm bs hx hnm hbs;refine Comes.RM ?_;simp only[fw.f];refine Comes.ite (fun _=>Comes.ret true rfl) (fun hn1=>?_);refine Comes.ite (fun _=>Comes.ret true rfl) (fun Tu=>?_);refine Comes.bind (RC x ⟨hx.1.1,fun y hy=>(hx.1.2 y hy).2.1.1⟩ ⟨hx.2.1.1,fun y hy=>(hx.2.1.2 y hy).1⟩ ⟨hx.2.2.1.1,fun y hy=>(hx.2.2.1.2 y hy).1⟩ 1048576 (by omega) (by omega)) (fun t ht=>Comes.ite (fun _=>Comes.ret true rfl) (fun hn=>?_));obtain⟨b0,bd,b1,b2⟩:=ht.2 (by omega);have c0:(x.f0.map hZ).length≤1048576:=by simpa using b0
 have c1:(x.f1.map toEntry).length≤1048576:=by simpa using b1
 have c2:(x.f2.map toEntry).length≤1048576:=by simpa using b2
 have Ko:∀y ∈ x.f0.map hZ,y.f1.length≤1048576:=by
  intro y hy;obtain⟨z,hz,rfl⟩:=List.mem_map.1 hy;exact bd z hz
 have hmd:∀y ∈ x.f0.map hZ,y.f1.length≤4194304:=fun y hy=>Nat.le_trans (Ko y hy) (by decide)
 have yt:∀e ∈ x.f1.map toEntry,e.f0.size≤9223372036854775807:=by
  intro y hy;obtain⟨z,hz,rfl⟩:=List.mem_map.1 hy;exact(hx.2.1.2 z hz).1
 have xn:∀e ∈ x.f2.map toEntry,e.f0.size≤9223372036854775807:=by
  intro y hy;obtain⟨z,hz,rfl⟩:=List.mem_map.1 hy;exact(hx.2.2.1.2 z hz).1
 have hsm:Small (x.f0.map hZ) (x.f1.map toEntry) (x.f2.map toEntry):=⟨c0,hmd,c1,c2,yt,xn⟩;have hb:bs.length≤1048576:=by omega
 have hi:=ayF hbs.2;have hl:=aax (wR (bs.length:Int));have hL:(y8 bs).length≤1048600:=by rw[ahz];omega
 have hr:Small (uj (x.f0.map hZ) (x.f1.map toEntry) (x.f2.map toEntry) x.f3 nm (y8 bs)).1 (uj (x.f0.map hZ) (x.f1.map toEntry) (x.f2.map toEntry) x.f3 nm (y8 bs)).2.1 (uj (x.f0.map hZ) (x.f1.map toEntry) (x.f2.map toEntry) x.f3 nm (y8 bs)).2.2.1:=by
  unfold uj;by_cases hc:jW (cN (x.f0.map hZ) (x.f1.map toEntry) (x.f2.map toEntry) x.f3) (x.f1.map toEntry) nm=0
  ·obtain⟨hok,hid⟩:=Xc hc;obtain⟨j,m,d1,d2,d3,d5,d6⟩:=Pr hok hid;rw[if_pos hc,d6];exact Pw hsm (Pf hsm Ko m (y8 bs) hL d5)
  ·rw[if_neg hc];exact hsm
 obtain⟨K1,h1⟩:=RJ x b0 bd b1 b2;obtain⟨K2,h2⟩:=aHS (x.f0.map hZ) (x.f1.map toEntry) (x.f2.map toEntry) x.f3 nm bs (by omega) hsm Ko hi hb;obtain⟨K3,h3⟩:=aG7 (x.f0.map hZ) (x.f1.map toEntry) (x.f2.map toEntry) x.f3 nm bs (by omega) hsm Ko hi hb;generalize uj (x.f0.map hZ) (x.f1.map toEntry) (x.f2.map toEntry) x.f3 nm (y8 bs)=r at hr h2 h3
 obtain⟨K4,h4⟩:=FX (x.f0.map hZ) (x.f1.map toEntry) (x.f2.map toEntry) x.f3 c0 hmd c1 c2;obtain⟨hm,K5,h5⟩:=GO (x.f0.map hZ) (x.f1.map toEntry) (x.f2.map toEntry) x.f3 c0 hmd c1 c2;have hle:=rY (x.f0.map hZ) hmd 1 (x.f0.map hZ).length (Nat.le_refl _);obtain⟨K9,h9⟩:=Ln bs (by omega);obtain⟨K10,XQ⟩:=J8 bs (by omega);obtain⟨K11,XR⟩:=KS bs _ hm (by omega);obtain⟨K6,h6⟩:=FX r.1 r.2.1 r.2.2.1 r.2.2.2.1 hr.h0 hr.hd hr.h1 hr.h2;obtain⟨m,a',b',c',hm2,⟨K7,h7⟩,⟨K8,h8⟩⟩:=Qz r.1 r.2.1 r.2.2.1 r.2.2.2.1 hr.h0 hr.hd hr.h1 hr.h2;dsimp only at h1 h2 h3 h4 h5 h6 h7 h8 h9 XQ XR;refine⟨true,rfl,K1+K2+K3+K4+K5+K6+K7+K8+K9+K10+K11+3,fun k hk=>?_⟩;obtain⟨q,rfl⟩:∃q,k=q+3:=⟨k-3,by omega⟩;dsimp only;rw[h1 _ (by omega),Option.bind_some,h9 _ (by omega),Option.bind_some,h2 _ (by omega),Option.bind_some,Option.bind_some,Option.bind_some,h3 _ (by omega),Option.bind_some,h6 _ (by omega),Option.bind_some,if_pos rfl];simp only[fw.j0,fw.j1,fw.j2,bne_self_eq_false,Bool.false_eq_true,if_false];rw[h1 _ (by omega),Option.bind_some,h4 _ (by omega),Option.bind_some,if_pos rfl,h9 _ (by omega),Option.bind_some,XQ _ (by omega),Option.bind_some,if_pos rfl,h5 _ (by omega),Option.bind_some,XR _ (by omega),Option.bind_some,if_neg (by simp only[];omega),h6 _ (by omega),Option.bind_some,if_pos rfl,h7 _ (by omega),Option.bind_some,h8 _ (by omega),Option.bind_some,if_neg (by omega),if_pos rfl,h1 _ (by omega),Option.bind_some,h9 _ (by omega),Option.bind_some,h3 _ (by omega),Option.bind_some,h6 _ (by omega),Option.bind_some,if_pos rfl];simp only[bne_self_eq_false,Bool.false_eq_true,if_false];rw[h8 _ (by omega),Option.bind_some,if_neg (by omega),if_pos rfl]
end Go.Proofs.Ytgpkdbnikcghgaa.MPureFnExactLog
