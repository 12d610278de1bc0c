/- FnExactRename: Rename of the program and of the reference answer the same, for all disks and names; what it answers is new memory. No condition. -/
import Derived.Test.YtgpkdbnikcghgaaMFnExactRenameDef
import Derived.Sort.AssemblyPlain
set_option linter.unusedVariables false
set_option linter.unusedSimpArgs false
namespace Go.Proofs.Ytgpkdbnikcghgaa.MPureFnExactRename
open Go.RowKit Go.Proofs.Ytgpkdbnikcghgaa.MD Go.Proofs.YtgpkdbnikcghgaaW.PrintWords Go.Proofs.YtgpkdbnikcghgaaW.PrintLast Go.Proofs.YtgpkdbnikcghgaaW.PrintMore
theorem fj {i:Int} (h0:-9223372036854775808≤i) (h1:i≤9223372036854775807):wrap64 i=i:=by unfold wrap64;omega
theorem ca {i n:Nat} (h:i<n) (hn:n≤9223372036854775807):wrap64 ((i:Int)+1)=((i+1:Nat):Int):=by unfold wrap64;omega
theorem EG (xs:List Int) (i:Nat):rd xs (i:Int)=xs.getD i 0:=by simp[rd]
theorem tA {α:Type} (l:List α) (i:Nat) (x:α) (h:i<l.length):(l.set i x).take (i+1)=l.take i++[x]:=by
 rw[List.take_succ_eq_append_getElem (by simpa using h),List.getElem_set_self,List.take_set_of_le (Nat.le_refl _)]
theorem RH {α:Type} (l:List α) (i:Nat) (d:α) (h:i<l.length):l.take (i+1)=l.take i++[l.getD i d]:=by
 rw[List.take_succ_eq_append_getElem h,List.getD_eq_getElem?_getD,List.getElem?_eq_getElem h];rfl
theorem tz {α:Type} {l m:List α} {n:Nat} (h:l.take n=m) (hl:l.length=n):l=m:=by
 rw[←h,←hl,List.take_length]
theorem FZ {β:Type} (L:Nat→List β→Int→Option (List β)) (n:Nat) (g:Nat→β) (z:β)
 (hs:∀(i:Nat) (out:List β) (r:List β),i<n→out.length=n→Ev (fun k=>L k (out.set i (g i)) ((i+1:Nat):Int)) r→Ev (fun k=>L k out (i:Int)) r)
 (he:∀out:List β,out.length=n→Ev (fun k=>L k out (n:Int)) out):Ev (fun k=>L k (List.replicate n z) 0) ((List.range n).map g):=by
 have key:∀(d i:Nat) (out:List β),i+d=n→out.length=n→out.take i=(List.range i).map g→Ev (fun k=>L k out (i:Int)) ((List.range n).map g):=by
  intro d
  induction d with
  |zero=>
   intro i out hi hl ht;have:i=n:=by omega
   subst this;have e:=tz ht hl;rw[←e];exact he out hl
  |succ d ih=>
   intro i out hi hl ht;refine hs i out _ (by omega) hl (ih (i+1) _ (by omega) (by simp[hl]) ?_);rw[tA _ _ _ (by omega),ht,List.range_succ,List.map_append];rfl
 exact key n 0 _ (by omega) (by simp) (by simp)
theorem QC {β σ:Type} (L:Nat→List β→σ→Int→Option (σ × List β)) (n:Nat) (g:Nat→β) (st:Nat→σ)
 (hs:∀(i:Nat) (out:List β) (r:σ × List β),i<n→out.length=n→Ev (fun k=>L k (out.set i (g i)) (st (i+1)) ((i+1:Nat):Int)) r→Ev (fun k=>L k out (st i) (i:Int)) r)
 (he:∀out:List β,out.length=n→Ev (fun k=>L k out (st n) (n:Int)) (st n,out)) (l:List β) (hl:l.length=n):Ev (fun k=>L k l (st 0) 0) (st n,(List.range n).map g):=by
 have key:∀(d i:Nat) (out:List β),i+d=n→out.length=n→out.take i=(List.range i).map g→Ev (fun k=>L k out (st i) (i:Int)) (st n,(List.range n).map g):=by
  intro d
  induction d with
  |zero=>
   intro i out hi hl ht;have:i=n:=by omega
   subst this;have e:=tz ht hl;rw[←e];exact he out hl
  |succ d ih=>
   intro i out hi hl ht;refine hs i out _ (by omega) hl (ih (i+1) _ (by omega) (by simp[hl]) ?_);rw[tA _ _ _ (by omega),ht,List.range_succ,List.map_append];rfl
 exact key n 0 _ (by omega) hl (by simp)
theorem we {ρ : Type} (g : Nat → Nat → Option ρ) (n : Nat) (r : ρ) (hs : ∀ i, i < n → Ev (g (i + 1)) r → Ev (g i) r) (he : Ev (g n) r) : Ev (g 0) r := by
  have key : ∀ (d i : Nat), i + d = n → Ev (g i) r := by
    intro d
    induction d with
    | zero => intro i hi; have : i = n := by omega
              subst this; exact he
    | succ d ih => intro i hi; exact hs i (by omega) (ih (i + 1) (by omega))
  exact key n 0 (by omega)
theorem AM {α β:Type} (l:List α) (f:α→β) (d:α):(List.range l.length).map (fun i=>f (l.getD i d))=l.map f:=by
 apply List.ext_getElem?;intro i;rw[List.getElem?_map,List.getElem?_map];by_cases h:i<l.length
 ·simp[h,List.getD_eq_getElem?_getD]
 ·rw[List.getElem?_eq_none (by simp;omega),List.getElem?_eq_none (by omega)];rfl
theorem Ha {β:Type} (n i:Nat) (g:Nat→β) (d:β) (h:i<n):((List.range n).map g).getD i d=g i:=by
 simp[List.getD_eq_getElem?_getD,h]
theorem Ev.bind' {α β:Type} {g:Nat→Option α} {f:Nat→α→Option β} {a:α} {r:β} (h:Ev g a) (k:Ev (fun n=>f n a) r):Ev (fun n=>(g n).bind (f n)) r:=Ev.bind h k
theorem Ev.round {α:Type} {g f:Nat→Option α} {r:α} (h:∃K,∀k,K≤k→g (k+1)=f k) (k:Ev f r):Ev g r:=by
 obtain⟨K,h⟩:=h;obtain⟨K',k⟩:=k
 exact⟨K+K'+1,fun n hn=>by
  obtain⟨m,rfl⟩:∃m,n=m+1:=⟨n-1,by omega⟩;rw[h m (by omega)];exact k m (by omega)⟩
theorem Ev.ends {α:Type} {g:Nat→Option α} {r:α} (h:∀k,g (k+1)=some r):Ev g r:=⟨1,fun n hn=>by
 obtain⟨m,rfl⟩:∃m,n=m+1:=⟨n-1,by omega⟩;exact h m⟩
theorem Ev.all {α:Type} {g:Nat→Option α} {r:α} (h:∀k,g k=some r):Ev g r:=⟨0,fun n _=>h n⟩
def toEntry (x:eR):ai:=(⟨x.f0,x.f1⟩:ai)
theorem Hq (l:List eR) (h:l.length≤1048576):Ev (fun k=>mM.f k l) (l.map toEntry):=by
 have hf:=FZ (fun k out i=>mM.l0 k l out i) l.length (fun i=>toEntry (l.getD i uc)) qU (fun i out r hi hl h=>?_) (fun out hl=>?_)
 ·rw[AM]at hf;refine Ev.congr (fun k=>?_) hf;simp only[mM.f];rw[if_pos (by omega),if_pos (by omega)];rfl
 ·refine Ev.step (fun k=>?_) h;simp only[mM.l0,NC.f,Option.bind_some,rB,Int.toNat_natCast];rw[if_pos (by omega),if_pos (by omega),if_pos (by omega),ca (n:=l.length) hi (by omega)];rfl
 ·refine Ev.ends (fun k=>?_);simp only[mM.l0];rw[if_neg (by omega)]
def Both {α:Type} (P:α→Prop) (f g:Nat→Option α):Prop:=∃r,P r∧Ev f r∧Ev g r
namespace Both
variable {α β:Type} {P:α→Prop} {f f' g g':Nat→Option α}
theorem step (h1:∀k,f (k+1)=f' k) (h2:∀k,g (k+1)=g' k) (h:Both P f' g'):Both P f g:=by
 obtain⟨r,hp,a,b⟩:=h;exact⟨r,hp,Ev.step h1 a,Ev.step h2 b⟩
theorem ret (r:α) (h:P r):Both P (fun _=>some r) (fun _=>some r):=⟨r,h,Ev.now r,Ev.now r⟩
theorem ite {c:Prop} [Decidable c] (h1:c→Both P f g) (h2:¬c→Both P f' g'):Both P (fun k=>if c then f k else f' k) (fun k=>if c then g k else g' k):=by
 by_cases h:c
 ·simpa only [if_pos h] using h1 h
 ·simpa only [if_neg h] using h2 h
theorem bind {Q:β→Prop} {p q:Nat→Option β} {F G:Nat→β→Option α} (h:Both Q p q) (k:∀b,Q b→Both P (fun n=>F n b) (fun n=>G n b)):Both P (fun n=>(p n).bind (F n)) (fun n=>(q n).bind (G n)):=by
 obtain⟨b,hq,h1,h2⟩:=h;obtain⟨r,hp,a,c⟩:=k b hq;exact⟨r,hp,Ev.bind h1 a,Ev.bind h2 c⟩
theorem mono {P':α→Prop} (h:Both P f g) (hi:∀r,P r→P' r):Both P' f g:=by
 obtain⟨r,hp,a,b⟩:=h;exact⟨r,hi r hp,a,b⟩
end Both
def Comes {α:Type} (P:α→Prop) (f:Nat→Option α):Prop:=∃r,P r∧Ev f r
namespace Comes
variable {α β:Type} {P:α→Prop} {f f':Nat→Option α}
theorem step (h1:∀k,f (k+1)=f' k) (h:Comes P f'):Comes P f:=by
 obtain⟨r,hp,a⟩:=h;exact⟨r,hp,Ev.step h1 a⟩
theorem ret (r:α) (h:P r):Comes P (fun _=>some r):=⟨r,h,Ev.now r⟩
theorem ite {c:Prop} [Decidable c] (h1:c→Comes P f) (h2:¬c→Comes P f'):Comes P (fun k=>if c then f k else f' k):=by
 by_cases h:c
 ·simpa only [if_pos h] using h1 h
 ·simpa only [if_neg h] using h2 h
theorem bind {Q:β→Prop} {p:Nat→Option β} {F:Nat→β→Option α} (h:Comes Q p) (k:∀b,Q b→Comes P (fun n=>F n b)):Comes P (fun n=>(p n).bind (F n)):=by
 obtain⟨b,hq,h1⟩:=h;obtain⟨r,hp,a⟩:=k b hq;exact⟨r,hp,Ev.bind h1 a⟩
theorem mono {P':α→Prop} (h:Comes P f) (hi:∀r,P r→P' r):Comes P' f:=by
 obtain⟨r,hp,a⟩:=h;exact⟨r,hi r hp,a⟩
theorem rounds (h:Comes P f):∃k r,f k=some r∧P r:=by
 obtain⟨r,hp,a⟩:=h;obtain⟨k,hk⟩:=a.rounds;exact⟨k,r,hk,hp⟩
theorem RM {f:Nat→Option Bool} (h:Comes (fun b=>b=true) f):∃k,f k=some true:=by
 obtain⟨k,r,hk,rfl⟩:=h.rounds;exact⟨k,hk⟩
theorem some_ (o:Option α) (r:α) (h:o=some r) (hp:P r):Comes P (fun _=>o):=⟨r,hp,Ev.all (fun _=>h)⟩
end Comes
theorem Hf {α:Type} (l:List α) (z:α) (B:α→Prop) (F:Nat→Int→Int→Option Int) (g:Nat→Int→Nat→Option Int) (hl:l.length≤9223372036854775806)
 (hF:∀(k:Nat) (a:Int) (i:Nat),i<l.length→0≤a→a≤1048576→F (k+1) a (i:Int)=(g i a k).bind fun t=>if t<0 then some (-1) else F k t ((i+1:Nat):Int))
 (hg:∀(i:Nat) (a:Int),i<l.length→0≤a→a≤1048576→Comes (fun t=>t≤a∧(0≤t→B (l.getD i z))) (g i a))
 (he:∀(k:Nat) (a:Int),F (k+1) a (l.length:Int)=some a) (a:Int) (ha:0≤a) (hb:a≤1048576):Comes (fun t=>t≤a∧(0≤t→∀x ∈ l,B x)) (fun k=>F k a 0):=by
 have key:∀(d i:Nat) (a:Int),i+d=l.length→0≤a→a≤1048576→Comes (fun t=>t≤a∧(0≤t→∀j,i≤j→j<l.length→B (l.getD j z))) (fun k=>F k a (i:Int)):=by
  intro d
  induction d with
  |zero=>
   intro i a hi ha hb;have:i=l.length:=by omega
   subst this;refine Comes.step (fun k=>he k a) (Comes.ret a ⟨Int.le_refl a,fun _ j h1 h2=>by omega⟩)
  |succ d ih=>
   intro i a hi ha hb;refine Comes.step (fun k=>hF k a i (by omega) ha hb) (Comes.bind (hg i a (by omega) ha hb) (fun t ht=>Comes.ite (fun _=>Comes.ret (-1) ⟨by omega,fun h=>by omega⟩) (fun hn=>?_)));refine(ih (i+1) t (by omega) (by omega) (by omega)).mono (fun r hr=>⟨by omega,fun h0 j h1 h2=>?_⟩);by_cases hj:j=i
   ·subst hj;exact ht.2 (by omega)
   ·exact hr.2 h0 j (by omega) h2
 refine(key l.length 0 a (by omega) ha hb).mono (fun r hr=>⟨hr.1,fun h0 x hx=>?_⟩);obtain⟨j,hj,rfl⟩:=List.mem_iff_getElem.1 hx;have:=hr.2 h0 j (by omega) hj
 rwa [List.getD_eq_getElem?_getD,List.getElem?_eq_getElem hj]at this
theorem ph {α:Type} {l:List α} {i:Nat} {z:α} (h:i<l.length):l.getD i z ∈ l:=by
 rw[List.getD_eq_getElem?_getD,List.getElem?_eq_getElem h];exact List.getElem_mem h
theorem RD (x:eR) (hx:x.f0.size≤maxLen) (a:Int) (ha:0≤a) (hb:a≤1048576):∃t,yw.f x.f0 x.f1 a=some t∧t≤a∧(0≤t→(x.f0.size:Int)≤a-t):=by
 unfold maxLen at hx;simp only[yw.f,Option.bind_some,wrap64]
 (repeat' split)<;>first|exact⟨_,rfl,by omega,by omega⟩|(simp only[Option.bind_some];(repeat' split)<;>exact⟨_,rfl,by omega,by omega⟩)
theorem He (l:List eR) (hx:l.length≤maxLen∧∀x ∈ l,(x.f0.size≤maxLen)) (a:Int) (ha:0≤a) (hb:a≤1048576):Comes (fun t=>t≤a∧(0≤t→(l.length:Int)≤a-t)) (fun k=>mo.f k l a):=by
 have hl:=hx.1;unfold maxLen at hl;have hw:wrap64 (a-(l.length:Int))=a-(l.length:Int):=fj (by omega) (by omega);simp only[mo.f,hw];refine Comes.ite (fun _=>Comes.ret (-1) ⟨by omega,fun h=>by omega⟩) (fun hn=>?_);refine(Hf l uc (fun _=>True) (fun k a i=>mo.l0 k l a i) (fun i a _=>yw.f (l.getD i uc).f0 (l.getD i uc).f1 a) (by omega) (fun k a i hi _ _=>?_) (fun i a hi ha hb=>?_) (fun k a=>?_) _ (by omega) (by omega)).mono (fun t ht=>⟨by omega,fun h=>by omega⟩)
 ·simp only[mo.l0,rB,Int.toNat_natCast];rw[if_pos (by omega),if_pos (by omega),ca (n:=l.length) hi (by omega)]
 ·obtain⟨t,h1,h2,h3⟩:=RD (l.getD i uc) (hx.2 _ (ph hi)) a ha hb;exact Comes.some_ _ t h1 ⟨h2,fun _=>trivial⟩
 ·simp only[mo.l0];rw[if_neg (by omega)]
theorem RI (xs:List Int) (hn:xs.length≤9223372036854775806):∀(d:Nat) (out:List Int) (i:Nat),i+d=xs.length→out.length=xs.length→out.take i=xs.take i →
 Ev (fun k=>fg.l0 k xs out (i:Int)) xs:=by
 intro d
 induction d with
 |zero=>
  intro out i hi hl ht;have e:out=xs:=by rw[tz ht (by omega),List.take_of_length_le (by omega)]
  refine Ev.step (f:=fun _=>some xs) (fun k=>?_) (Ev.now xs);simp only[fg.l0];rw[if_neg (by omega),e]
 |succ d ih=>
  intro out i hi hl ht;refine Ev.step (f:=fun k=>fg.l0 k xs (out.set i (xs.getD i 0)) ((i+1:Nat):Int)) (fun k=>?_) (ih _ _ (by omega) (by simp[hl]) ?_)
  ·simp only[fg.l0];rw[if_pos (by omega),if_pos (by omega),if_pos (by omega),ca (n:=xs.length) (by omega) (by omega),EG,Int.toNat_natCast]
  ·rw[tA _ _ _ (by omega),RH _ _ 0 (by omega),ht]
theorem Ln (xs:List Int) (hn:xs.length≤281474976710656):Ev (fun k=>fg.f k xs) xs:=by
 have h:=RI xs (by omega) xs.length (List.replicate xs.length 0) 0 (by omega) (by simp) (by simp);refine Ev.congr (fun k=>?_) h;simp only[fg.f];rw[if_pos (by omega),if_pos (by omega)];rfl
theorem PD (x:ai):DH.f x.f0 x.f1 x.f0 x.f1=some true:=by
 simp[DH.f]
theorem FY (l:List ai) (h:l.length≤9223372036854775806):Ev (fun k=>jP.f k l l) true:=by
 refine Ev.congr (fun k=>?_) (we (fun i k=>jP.l0 k l l (i:Int)) l.length true (fun i hi h=>?_) ?_)
 ·simp only[jP.f];rw[if_pos trivial];rfl
 ·refine Ev.step (fun k=>?_) h;simp only[jP.l0,PD,Option.bind_some];rw[if_pos (by omega),if_pos (by omega),if_pos (by omega),ca (n:=l.length) hi (by omega)];rfl
 ·refine Ev.ends (fun k=>?_);simp only[jP.l0];rw[if_neg (by omega)]
theorem PC (xs:List Int) (hn:xs.length≤9223372036854775806):∀(d i:Nat),i+d=xs.length→Ev (fun k=>lg.l0 k xs xs (i:Int)) true:=by
 intro d
 induction d with
 |zero=>
  intro i hi;refine Ev.step (f:=fun _=>some true) (fun k=>?_) (Ev.now true);simp only[lg.l0];rw[if_neg (by omega)]
 |succ d ih=>
  intro i hi;refine Ev.step (f:=fun k=>lg.l0 k xs xs ((i+1:Nat):Int)) (fun k=>?_) (ih _ (by omega));simp only[lg.l0];rw[if_pos (by omega),if_pos (by omega),if_pos (by omega),if_pos trivial,ca (n:=xs.length) (by omega) (by omega)]
theorem J8 (xs:List Int) (hn:xs.length≤9223372036854775806):Ev (fun k=>lg.f k xs xs) true:=by
 refine Ev.congr (fun k=>?_) (PC xs hn xs.length 0 (by omega));simp only[lg.f];rw[if_pos trivial];rfl
theorem PE (l:List ak) (h:l.length≤1048576) (hd:∀x ∈ l,x.f1.length≤4194304):Ev (fun k=>lh.f k l l) true:=by
 refine Ev.congr (fun k=>?_) (we (fun i k=>lh.l0 k l l (i:Int)) l.length true (fun i hi h=>?_) ?_)
 ·simp only[lh.f];rw[if_pos trivial];rfl
 ·have hm:l.getD i z80 ∈ l:=ph hi;obtain⟨K,hK⟩:=J8 (l.getD i z80).f1 (by have:=hd _ hm;omega);refine Ev.round ⟨K,fun k hk=>?_⟩ h;have t:=hK k hk;dsimp only at t;simp only[lh.l0,KR.f,aa,Int.toNat_natCast,t,Option.bind_some,if_true];rw[if_pos (by omega),if_pos (by omega),if_pos (by omega),ca (n:=l.length) hi (by omega)]
 ·refine Ev.ends (fun k=>?_);simp only[lh.l0];rw[if_neg (by omega)]
theorem FX (a:List ak) (b c:List ai) (n:Int) (h0:a.length≤1048576) (hd:∀x ∈ a,x.f1.length≤4194304) (h1:b.length≤1048576) (h2:c.length≤1048576):Ev (fun k=>cW.f k a b c n a b c n) true:=by
 obtain⟨K0,e0⟩:=PE a h0 hd;obtain⟨K1,e1⟩:=FY b (by omega);obtain⟨K2,e2⟩:=FY c (by omega);dsimp only at e0 e1 e2;exact⟨K0+K1+K2,fun k hk=>by simp only[cW.f];rw[e0 k (by omega),Option.bind_some,if_pos rfl,e1 k (by omega),Option.bind_some,if_pos rfl,e2 k (by omega),Option.bind_some,if_pos rfl,if_pos trivial]⟩
def hZ (x:ib):ak:=(⟨x.f0,x.f1,x.f2⟩:ak)
theorem RK (l:List ib) (h:l.length≤1048576) (hd:∀x ∈ l,x.f1.length≤1048576):Ev (fun k=>n8.f k l) (l.map hZ):=by
 have hf:=FZ (fun k out i=>n8.l0 k l out i) l.length (fun i=>hZ (l.getD i z93)) z80 (fun i out r hi hl h=>?_) (fun out hl=>?_)
 ·rw[AM]at hf;refine Ev.congr (fun k=>?_) hf;simp only[n8.f];rw[if_pos (by omega),if_pos (by omega)];rfl
 ·have hm:l.getD i z93 ∈ l:=ph hi;obtain⟨K,hK⟩:=Ln (l.getD i z93).f1 (by have:=hd _ hm;omega);refine Ev.round ⟨K,fun k hk=>?_⟩ h;have t:=hK k hk;dsimp only at t;simp only[n8.l0,ND.f,nA,Int.toNat_natCast];rw[if_pos (by omega),if_pos (by omega),t,Option.bind_some,Option.bind_some,if_pos (by omega),ca (n:=l.length) hi (by omega)];rfl
 ·refine Ev.ends (fun k=>?_);simp only[n8.l0];rw[if_neg (by omega)]
theorem RJ (x:pG) (h0:x.f0.length≤1048576) (hd:∀y ∈ x.f0,y.f1.length≤1048576) (h1:x.f1.length≤1048576) (h2:x.f2.length≤1048576):Ev (fun k=>fI.f k x.f0 x.f1 x.f2 x.f3) (x.f0.map hZ,x.f1.map toEntry,x.f2.map toEntry,x.f3):=by
 obtain⟨K0,e0⟩:=RK x.f0 h0 hd;obtain⟨K1,e1⟩:=Hq x.f1 h1;obtain⟨K2,e2⟩:=Hq x.f2 h2;dsimp only at e0 e1 e2;exact⟨K0+K1+K2,fun k hk=>by simp only[fI.f];rw[e0 k (by omega),Option.bind_some,e1 k (by omega),Option.bind_some,e2 k (by omega),Option.bind_some]⟩
theorem RF (x:ib) (hx:x.f1.length≤maxLen) (a:Int) (ha:0≤a) (hb:a≤1048576):∃t,yx.f x.f0 x.f1 x.f2 a=some t∧t≤a∧(0≤t→(x.f1.length:Int)≤a-t):=by
 unfold maxLen at hx;simp only[yx.f,IT.f,wrap64]
 (repeat' split)<;>first|exact⟨_,rfl,by omega,by omega⟩|(simp only[Option.bind_some];(repeat' split)<;>exact⟨_,rfl,by omega,by omega⟩)
theorem RE (l:List ib) (hx:l.length≤maxLen∧∀x ∈ l,x.f1.length≤maxLen) (a:Int) (ha:0≤a) (hb:a≤1048576):Comes (fun t=>t≤a∧(0≤t→(l.length:Int)≤a-t∧∀x ∈ l,x.f1.length≤1048576)) (fun k=>nS.f k l a):=by
 have hl:=hx.1;unfold maxLen at hl;have hw:wrap64 (a-(l.length:Int))=a-(l.length:Int):=fj (by omega) (by omega);simp only[nS.f,hw];refine Comes.ite (fun _=>Comes.ret (-1) ⟨by omega,fun h=>by omega⟩) (fun hn=>?_);refine(Hf l z93 (fun x=>x.f1.length≤1048576) (fun k a i=>nS.l0 k l a i) (fun i a _=>yx.f (l.getD i z93).f0 (l.getD i z93).f1 (l.getD i z93).f2 a) (by omega) (fun k a i hi _ _=>?_) (fun i a hi ha hb=>?_) (fun k a=>?_) _ (by omega) (by omega)).mono (fun t ht=>⟨by omega,fun h=>⟨by omega,ht.2 h⟩⟩)
 ·simp only[nS.l0,nA,Int.toNat_natCast];rw[if_pos (by omega),if_pos (by omega),ca (n:=l.length) hi (by omega)]
 ·obtain⟨t,h1,h2,h3⟩:=RF (l.getD i z93) (hx.2 _ (ph hi)) a ha hb;exact Comes.some_ _ t h1 ⟨h2,fun h0=>by have:=h3 h0;omega⟩
 ·simp only[nS.l0];rw[if_neg (by omega)]
theorem RC (x:pG) (h0:x.f0.length≤maxLen∧∀y ∈ x.f0,y.f1.length≤maxLen) (h1:x.f1.length≤maxLen∧∀y ∈ x.f1,y.f0.size≤maxLen) (h2:x.f2.length≤maxLen∧∀y ∈ x.f2,y.f0.size≤maxLen) (a:Int) (ha:0≤a) (hb:a≤1048576) :
 Comes (fun t=>t≤a∧(0≤t→x.f0.length≤1048576∧(∀y ∈ x.f0,y.f1.length≤1048576)∧x.f1.length≤1048576∧x.f2.length≤1048576)) (fun k=>rz.f k x.f0 x.f1 x.f2 x.f3 a):=by
 simp only[rz.f];refine Comes.bind (RE x.f0 h0 a ha hb) (fun t ht=>Comes.ite (fun _=>Comes.ret _ ⟨by omega,fun h=>by omega⟩) (fun hn=>?_));have r0:=ht.2 (by omega);refine Comes.bind (He x.f1 h1 t (by omega) (by omega)) (fun u hu=>Comes.ite (fun _=>Comes.ret _ ⟨by omega,fun h=>by omega⟩) (fun Tu=>?_));have r1:=hu.2 (by omega);refine Comes.bind (He x.f2 h2 u (by omega) (by omega)) (fun v hv=>Comes.ite (fun _=>Comes.ret _ ⟨by omega,fun h=>by omega⟩) (fun hn3=>?_));have r2:=hv.2 (by omega);exact Comes.ret v ⟨by omega,fun _=>⟨by omega,r0.2,by omega,by omega⟩⟩
def hO (a:Int) (n:Nat):List Int:=(List.range n).map fun (j:Nat)=>(a+(j:Int)) % 256
theorem GN (a:Int) (n:Nat):(hO a n).length=n:=by simp[hO]
theorem Qx (a:Int) (n:Nat):hO a (n+1)=hO a n++[(a+(n:Int)) % 256]:=by simp[hO,List.range_succ]
theorem Qw (a:Int) (n i:Nat) (h:i<n):(hO a n).getD i 0=(a+(i:Int)) % 256:=by
 simp[hO,List.getD_eq_getElem?_getD,h]
theorem Qy (a:Int) (n:Nat) (ha:0≤a) (hb:a+n≤9223372036854775806):∀(d:Nat) (l:List Int) (i:Nat),i+d=n→l.length=n→l.take i=hO a i →
 Ev (fun k=>kF.l0 k l (a+(i:Int)) (i:Int)) (a+(n:Int),hO a n):=by
 intro d
 induction d with
 |zero=>
  intro l i hi hl ht;have hin:i=n:=by omega
  subst hin;have e:l=hO a i:=tz ht hl;refine Ev.step (f:=fun _=>some (a+(i:Int),hO a i)) (fun k=>?_) (Ev.now _);simp only[kF.l0];rw[if_neg (by omega),e]
 |succ d ih=>
  intro l i hi hl ht;refine Ev.step (f:=fun k=>kF.l0 k (l.set i ((a+(i:Int)) % 256)) (a+((i+1:Nat):Int)) ((i+1:Nat):Int)) (fun k=>?_) (ih _ _ (by omega) (by simp[hl]) ?_)
  ·simp only[kF.l0];rw[if_pos (by omega),if_pos (by omega),ca (n:=n) (by omega) (by omega),Int.toNat_natCast,fj (i:=a+(i:Int)+1) (by omega) (by omega)];congr 1;omega
  ·rw[tA _ _ _ (by omega),Qx,ht]
theorem KS (l:List Int) (a:Int) (ha:0≤a) (hb:a+l.length≤9223372036854775806):Ev (fun k=>kF.f k l a) (a+(l.length:Int),hO a l.length):=by
 refine Ev.congr (fun k=>?_) (Qy a l.length ha hb l.length l 0 (by omega) rfl rfl);simp only[kF.f];congr 1;simp
def tv:Nat→Int→ByteArray→ByteArray
 |0,_,s=>s
 |d+1,k,s=>if k>0 then tv d (k / 10) (strOfNums [(48+k % 10) % 256]++s) else s
def AD (k:Int):ByteArray:=if k≤0 then ⟨#[109,48]⟩ else ⟨#[109]⟩++tv 20 k ⟨#[]⟩
theorem QB:∀(d:Nat) (k:Int) (s:ByteArray),k<10 ^ d→k≤9223372036854775807→s.size+d≤9223372036854775806→Ev (fun q=>lU.l0 q k s) (⟨#[109]⟩++tv d k s):=by
 intro d
 induction d with
 |zero=>
  intro k s hk Qf hs;refine Ev.ends (fun q=>?_);simp only[lU.l0];rw[if_neg (by omega),if_pos (by omega)];rfl
 |succ d ih=>
  intro k s hk Qf hs;by_cases h0:k>0
  ·have hp:(10:Int) ^ (d+1)=10 ^ d*10:=Int.pow_succ ..;have hsz:(strOfNums [(48+k % 10) % 256]++s).size=1+s.size:=by rw[ByteArray.size_append];rfl
   have hm:Int.tmod k 10=k % 10:=Int.tmod_eq_emod_of_nonneg (by omega);have hd:Int.tdiv k 10=k / 10:=Int.tdiv_eq_ediv_of_nonneg (by omega);have:=ih (k / 10) (strOfNums [(48+k % 10) % 256]++s) (by omega) (by omega) (by omega);unfold tv;rw[if_pos h0];refine Ev.step (fun q=>?_) this;simp only[lU.l0,Option.bind_some];rw[if_pos h0,hm,hd,fj (i:=48+k % 10) (by omega) (by omega),fj (i:=k / 10) (by omega) (by omega),if_pos (by rw[←ByteArray.size_append,hsz];omega)]
  ·unfold tv;rw[if_neg h0];refine Ev.ends (fun q=>?_);simp only[lU.l0];rw[if_neg h0,if_pos (by omega)]
theorem GQ (k:Int) (h:k≤9223372036854775807):Ev (fun q=>lU.f q k) (AD k):=by
 unfold AD;by_cases h0:k≤0
 ·rw[if_pos h0];exact Ev.all (fun q=>by simp only[lU.f];rw[if_pos h0])
 ·rw[if_neg h0];refine Ev.congr (fun q=>?_) (QB 20 k ⟨#[]⟩ (by omega) h (show (0:Nat)+20≤9223372036854775806 by omega));simp only[lU.f];rw[if_neg h0]
theorem PL {α:Type} {l:List α} {i:Nat} (x z:α) (h:i<l.length):(l.set i x).getD i z=x:=by
 rw[List.getD_eq_getElem?_getD,List.getElem?_set_self h];rfl
def wb (k:Int):ai:=(⟨AD (k),(k+1)⟩:ai)
def n9 (a:Int) (n:Nat):List ai:=(List.range n).map fun (i:Nat)=>wb (a+2*(i:Int))
theorem GR (a:Int) (n:Nat):(n9 a n).length=n:=by simp[n9]
theorem GP (l:List ai) (a:Int) (ha:0≤a) (hb:a+2*(l.length:Int)≤4611686018427387904):Ev (fun k=>nR.f k l a) (a+2*(l.length:Int),n9 a l.length):=by
 have hm:=QC (fun k out s i=>nR.l0 k out s i) l.length (fun i=>wb (a+2*(i:Int))) (fun i=>a+2*(i:Int)) (fun i out r hi hl h=>?_) (fun out hl=>?_) l rfl
 ·refine Ev.congr (fun k=>?_) hm;simp only[nR.f];congr 1;simp
 ·(try dsimp only at h ⊢)
  obtain⟨K0,h0⟩:=GQ (a+2*(i:Int)) (by omega);refine Ev.round ⟨0+K0,fun k hk=>?_⟩ h;have t0:=h0 k (by omega);dsimp only at t0;have e1:((i:Int)<(out.length:Int))=True:=eq_true (by omega);have e2:(0≤(i:Int))=True:=eq_true (by omega);have ew:wrap64 ((i:Int)+1)=((i+1:Nat):Int):=ca (n:=l.length) hi (by omega);have w1:wrap64 (a+2*(i:Int)+1)=a+2*(i:Int)+1:=fj (by omega) (by omega);have w2:wrap64 (a+2*(i:Int)+2)=a+2*(i:Int)+2:=fj (by omega) (by omega);have Ad:a+2*(i:Int)+1+1=a+2*(i:Int)+2:=by omega
  have ae:a+2*(i:Int)+2=a+2*((i+1:Nat):Int):=by omega
  simp only[nR.l0,e1,e2,if_true,t0,Option.bind_some,w1,w2,Ad,ew,aq,Int.toNat_natCast,List.set_set,PL _ _ (show i<out.length by omega)]
  (rw[ae])<;>rfl
 ·refine Ev.ends (fun k=>?_);simp only[nR.l0];rw[if_neg (by omega)]
def cR (l:List ak) (a:Int):Nat→Int
 |0=>a
 |i+1=>cR l a i+2+((aa l (i:Int)).f1.length:Int)
def pn (l:List ak) (a:Int) (i:Nat):ak:=(⟨cR l a i,hO (cR l a i+1) (aa l (i:Int)).f1.length,cR l a i+1+((aa l (i:Int)).f1.length:Int)⟩:ak)
def po (l:List ak) (a:Int):List ak:=(List.range l.length).map (pn l a)
theorem GS (l:List ak) (a:Int):(po l a).length=l.length:=by simp[po]
theorem AN {l:List ak} {i:Nat} (h:i<l.length):aa l (i:Int) ∈ l:=ph h
theorem rY (l:List ak) (hd:∀x ∈ l,x.f1.length≤4194304) (a:Int):∀i,i≤l.length→a≤cR l a i∧cR l a i≤a+(i:Int)*4194306
 |0,_=>by simp[cR]
 |i+1,h=>by
  have h1:=rY l hd a i (by omega);have h2:=hd _ (AN (show i<l.length by omega));simp only[cR];omega
theorem QD {β σ:Type} (L:Nat→List β→σ→Int→Option (σ × List β)) (l:List β) (z:β) (g:Nat→β) (st:Nat→σ)
 (hs:∀(i:Nat) (out:List β) (r:σ × List β),i<l.length→out.length=l.length→out.getD i z=l.getD i z→Ev (fun k=>L k (out.set i (g i)) (st (i+1)) ((i+1:Nat):Int)) r→Ev (fun k=>L k out (st i) (i:Int)) r)
 (he:∀out:List β,out.length=l.length→Ev (fun k=>L k out (st l.length) (l.length:Int)) (st l.length,out)):Ev (fun k=>L k l (st 0) 0) (st l.length,(List.range l.length).map g):=by
 have key:∀(d i:Nat) (out:List β),i+d=l.length→out.length=l.length→out.take i=(List.range i).map g→(∀j,i≤j→out.getD j z=l.getD j z)→Ev (fun k=>L k out (st i) (i:Int)) (st l.length,(List.range l.length).map g):=by
  intro d
  induction d with
  |zero=>
   intro i out hi hl ht _;have hin:i=l.length:=by omega
   subst hin;have e:=tz ht hl;rw[←e];exact he out hl
  |succ d ih=>
   intro i out hi hl ht hg;refine hs i out _ (by omega) hl (hg i (Nat.le_refl _)) (ih (i+1) _ (by omega) (by simp[hl]) ?_ (fun j hj=>?_))
   ·rw[tA _ _ _ (by omega),ht,List.range_succ,List.map_append];rfl
   ·rw[←hg j (by omega),List.getD_eq_getElem?_getD,List.getD_eq_getElem?_getD,List.getElem?_set_ne (by omega)]
 exact key l.length 0 l (by omega) rfl (by simp) (fun _ _=>rfl)
theorem QA (l:List ak) (a:Int) (ha:0≤a) (hb:a≤4611686018427387904) (h:l.length≤1048576) (hd:∀x ∈ l,x.f1.length≤4194304):Ev (fun k=>pk.f k l a) (cR l a l.length,po l a):=by
 have hle:=rY l hd a;have hm:=QD (fun k out s i=>pk.l0 k out s i) l z80 (pn l a) (cR l a) (fun i out r hi hl hg h=>?_) (fun out hl=>?_)
 ·refine Ev.congr (fun k=>?_) hm;simp only[pk.f];rfl
 ·have hrd:aa out (i:Int)=aa l (i:Int):=hg;have b1:=hle i (by omega);have b2:=hd _ (AN hi);obtain⟨K0,h0⟩:=KS (aa l (i:Int)).f1 (cR l a i+1) (by omega) (by omega);refine Ev.round ⟨K0,fun k hk=>?_⟩ h;have t0:=h0 k (by omega);dsimp only at t0;simp only[pk.l0,hrd,Int.toNat_natCast];rw[if_pos (by omega),if_pos (by omega),fj (i:=cR l a i+1) (by omega) (by omega),t0,Option.bind_some,ca (n:=l.length) hi (by omega),fj (by simp only[];omega) (by simp only[];omega)];simp only[pn,cR];congr 1;omega
 ·refine Ev.ends (fun k=>?_);simp only[pk.l0];rw[if_neg (by omega)]
theorem GO (a:List ak) (b c:List ai) (n:Int) (h0:a.length≤1048576) (hd:∀x ∈ a,x.f1.length≤4194304) (h1:b.length≤1048576) (h2:c.length≤1048576) :
 0≤cR a 1 a.length+2*(b.length:Int)+2*(c.length:Int)∧Ev (fun k=>kG.f k a b c n 1) (cR a 1 a.length+2*(b.length:Int)+2*(c.length:Int),po a 1,n9 (cR a 1 a.length) b.length,n9 (cR a 1 a.length+2*(b.length:Int)) c.length):=by
 have l0:=(rY a hd 1 a.length (Nat.le_refl _));obtain⟨K0,e0⟩:=QA a 1 (by omega) (by omega) h0 hd;obtain⟨K1,e1⟩:=GP b (cR a 1 a.length) (by omega) (by omega);obtain⟨K2,e2⟩:=GP c (cR a 1 a.length+2*(b.length:Int)) (by omega) (by omega);dsimp only at e0 e1 e2;exact⟨by omega,K0+K1+K2,fun k hk=>by simp only[kG.f];rw[e0 k (by omega),Option.bind_some,e1 k (by omega),Option.bind_some,e2 k (by omega),Option.bind_some]⟩
theorem P2 (a:Int) (n:Nat) (ha:0≤a) (hb:a+n≤9223372036854775806):∀(d i:Nat),i+d=n→Ev (fun k=>mL.l0 k (hO a n) (a+(i:Int)) (i:Int)) (a+(n:Int)):=by
 intro d
 induction d with
 |zero=>
  intro i hi;have hin:i=n:=by omega
  subst hin;refine Ev.step (f:=fun _=>some (a+(i:Int))) (fun k=>?_) (Ev.now _);simp only[mL.l0,GN];rw[if_neg (by omega)]
 |succ d ih=>
  intro i hi;refine Ev.step (f:=fun k=>mL.l0 k (hO a n) (a+((i+1:Nat):Int)) ((i+1:Nat):Int)) (fun k=>?_) (ih _ (by omega));simp only[mL.l0,GN];rw[if_pos (by omega),if_pos (by omega),EG,if_pos (Qw a n i (by omega)),ca (n:=n) (by omega) (by omega),fj (i:=a+(i:Int)+1) (by omega) (by omega)];congr 1;omega
theorem P1 (a:Int) (n:Nat) (ha:0≤a) (hb:a+n≤9223372036854775806):Ev (fun k=>mL.f k (hO a n) a) (a+(n:Int)):=by
 refine Ev.congr (fun k=>?_) (P2 a n ha hb n 0 (by omega));simp only[mL.f];congr 1;simp
theorem Gf (a:Int) (n:Nat) (ha:0≤a) (hb:a+2*(n:Int)≤4611686018427387904):Ev (fun k=>jQ.f k (n9 a n) a) (a+2*(n:Int)):=by
 refine Ev.congr (fun k=>?_) (we (fun i k=>jQ.l0 k (n9 a n) (a+2*(i:Int)) (i:Int)) n (a+2*(n:Int)) (fun i hi h=>?_) ?_)
 ·simp only[jQ.f];congr 1;simp
 ·(try dsimp only at h ⊢)
  obtain⟨K0,h0⟩:=GQ (a+2*(i:Int)) (by omega);refine Ev.round ⟨0+K0,fun k hk=>?_⟩ h;have t0:=h0 k (by omega);dsimp only at t0;have e1:((i:Int)<(n:Int))=True:=eq_true (by omega);have e2:(0≤(i:Int))=True:=eq_true (by omega);have ew:wrap64 ((i:Int)+1)=((i+1:Nat):Int):=ca (n:=n) hi (by omega);have eg:(n9 a n).getD i qU=wb (a+2*(i:Int)):=Ha n i _ _ hi;have w1:wrap64 (a+2*(i:Int)+1)=a+2*(i:Int)+1:=fj (by omega) (by omega);have w2:wrap64 (a+2*(i:Int)+2)=a+2*(i:Int)+2:=fj (by omega) (by omega);have Ad:a+2*(i:Int)+1+1=a+2*(i:Int)+2:=by omega
  have ae:a+2*(i:Int)+2=a+2*((i+1:Nat):Int):=by omega
  simp only[jQ.l0,GR,e1,e2,if_true,t0,Option.bind_some,w1,w2,Ad,ew,aq,Int.toNat_natCast,eg,wb,bne_self_eq_false,Bool.false_eq_true,if_false]
  first|((rw[ae])<;>rfl)|(simp only[beq_self_eq_true,bne_self_eq_false,Bool.false_eq_true,if_false,if_true,ae])
 ·refine Ev.ends (fun k=>?_);simp only[jQ.l0,GR];rw[if_neg (by omega)]
theorem P3 (l:List ak) (a:Int) (ha:0≤a) (hb:a≤4611686018427387904) (h:l.length≤1048576) (hd:∀x ∈ l,x.f1.length≤4194304):Ev (fun k=>nQ.f k (po l a) a) (cR l a l.length):=by
 have hle:=rY l hd a;refine Ev.congr (fun k=>?_) (we (fun i k=>nQ.l0 k (po l a) (cR l a i) (i:Int)) l.length (cR l a l.length) (fun i hi h=>?_) ?_)
 ·simp only[nQ.f];rfl
 ·have hrd:aa (po l a) (i:Int)=pn l a i:=Ha l.length i _ _ hi;have b1:=hle i (by omega);have b2:=hd _ (AN hi);obtain⟨K0,h0⟩:=P1 (cR l a i+1) (aa l (i:Int)).f1.length (by omega) (by omega);refine Ev.round ⟨K0,fun k hk=>?_⟩ h;have t0:=h0 k (by omega);dsimp only at t0
  have t1:mL.f k (pn l a i).f1 (wrap64 (cR l a i+1))=some (cR l a i+1+((aa l (i:Int)).f1.length:Int)):=by
   rw[fj (i:=cR l a i+1) (by omega) (by omega)];exact t0
  simp only[nQ.l0,GS,hrd];rw[if_pos (by omega),if_pos (by omega),if_pos (show (pn l a i).f0=cR l a i from rfl),t1,Option.bind_some,if_neg (by omega),if_pos (show (pn l a i).f2=cR l a i+1+((aa l (i:Int)).f1.length:Int) from rfl),ca (n:=l.length) hi (by omega),fj (by omega) (by omega)];simp only[cR];congr 1;omega
 ·refine Ev.ends (fun k=>?_);simp only[nQ.l0,GS];rw[if_neg (by omega)]
theorem Qz (a:List ak) (b c:List ai) (n:Int) (h0:a.length≤1048576) (hd:∀x ∈ a,x.f1.length≤4194304) (h1:b.length≤1048576) (h2:c.length≤1048576) :
 ∃(m:Int) (a':List ak) (b' c':List ai),0≤m∧Ev (fun k=>kG.f k a b c n 1) (m,a',b',c')∧Ev (fun k=>pM.f k a' b' c' n 1) m:=by
 have l0:=(rY a hd 1 a.length (Nat.le_refl _));obtain⟨K3,e3⟩:=P3 a 1 (by omega) (by omega) h0 hd;obtain⟨K4,e4⟩:=Gf (cR a 1 a.length) b.length (by omega) (by omega);obtain⟨K5,e5⟩:=Gf (cR a 1 a.length+2*(b.length:Int)) c.length (by omega) (by omega);dsimp only at e3 e4 e5;have hm:=GO a b c n h0 hd h1 h2;exact⟨_,_,_,_,hm.1,hm.2,K3+K4+K5,fun k hk=>by simp only[pM.f];rw[e3 k (by omega),Option.bind_some,if_neg (by omega),e4 k (by omega),Option.bind_some,if_neg (by omega),e5 k (by omega),Option.bind_some,if_neg (by omega)]⟩
def cm {ρ:Type} (p:Nat→Bool) (stop:Nat→ρ) (e:ρ):Nat→Nat→ρ
 |_,0=>e
 |i,d+1=>if p i=true then stop i else cm p stop e (i+1) d
theorem jN {ρ:Type} (g:Nat→Nat→Option ρ) (n:Nat) (p:Nat→Bool) (stop:Nat→ρ) (e:ρ)
 (hs:∀(i:Nat) (r:ρ),i<n→p i=false→Ev (g (i+1)) r→Ev (g i) r) (ht:∀i,i<n→p i=true→Ev (g i) (stop i)) (he:Ev (g n) e):Ev (g 0) (cm p stop e 0 n):=by
 have key:∀(d i:Nat),i+d=n→Ev (g i) (cm p stop e i d):=by
  intro d
  induction d with
  |zero=>
   intro i hi;have:i=n:=by omega
   subst this;exact he
  |succ d ih=>
   intro i hi;simp only[cm];by_cases h:p i=true
   ·rw[if_pos h];exact ht i (by omega) h
   ·rw[if_neg h];exact hs i _ (by omega) (by simpa using h) (ih (i+1) (by omega))
 exact key n 0 (by omega)
theorem F0 {ρ:Type} {p q:Nat→Bool} {stop:Nat→ρ} {e:ρ}:∀(d i:Nat),(∀j,i≤j→j<i+d→p j=q j)→cm p stop e i d=cm q stop e i d
 |0,_,_=>rfl
 |d+1,i,h=>by
  simp only[cm];rw[h i (by omega) (by omega),F0 d (i+1) (fun j h1 h2=>h j (by omega) (by omega))]
theorem nJ {e:Bool} {p:Nat→Bool}:∀(d i:Nat),cm p (fun _=>false) e i d=(!cm p (fun _=>true) false i d&&e)
 |0,_=>by simp[cm]
 |d+1,i=>by
  simp only[cm];by_cases h:p i=true
  ·rw[if_pos h,if_pos h];rfl
  ·rw[if_neg h,if_neg h];exact nJ d (i+1)
theorem xW {p:Nat→Bool}:∀(d i:Nat),cm p (fun _=>true) false i d=false→∀j,i≤j→j<i+d→p j=false
 |0,i,_,j,h1,h2=>by omega
 |d+1,i,h,j,h1,h2=>by
  simp only[cm]at h;by_cases hp:p i=true
  ·rw[if_pos hp]at h;cases h
  ·rw[if_neg hp]at h;by_cases hj:j=i
   ·subst hj;simpa using hp
   ·exact xW d (i+1) h j (by omega) (by omega)
theorem Ar {p:Nat→Bool}:∀(d i:Nat),cm p (fun _=>true) false i d=true→∃j,i≤j∧j<i+d∧p j=true
 |0,_,h=>by simp[cm]at h
 |d+1,i,h=>by
  simp only[cm]at h;by_cases hp:p i=true
  ·exact⟨i,by omega,by omega,hp⟩
  ·rw[if_neg hp]at h;obtain⟨j,h1,h2,h3⟩:=Ar d (i+1) h;exact⟨j,by omega,by omega,h3⟩
theorem zk {l:List ai} {i:Nat} (h:i<l.length):aq l (i:Int) ∈ l:=ph h
theorem rZ {l:List ak} {i:Nat} (h:i<l.length):aa l (i:Int) ∈ l:=ph h
theorem Rx (l:List ai) (i j:Nat) (h:j<i):aq (l.take i) (j:Int)=aq l (j:Int):=by
 simp only[aq,Int.toNat_natCast];rw[List.getD_eq_getElem?_getD,List.getD_eq_getElem?_getD,List.getElem?_take,if_pos h]
def named (l:List ai) (id:Int):Bool:=cm (fun i=>decide ((aq l (i:Int)).f1=id)) (fun _=>true) false 0 l.length
theorem wa (l:List ai) (h:l.length≤1048576) (id:Int):Ev (fun k=>fS.f k l id) (named l id):=by
 refine Ev.congr (fun k=>?_) (jN (fun i k=>fS.l0 k l id (i:Int)) l.length _ _ _ (fun i r hi hp h=>?_) (fun i hi hp=>?_) ?_)
 ·simp only[fS.f];rfl
 ·refine Ev.step (fun k=>?_) h;simp only[fS.l0];rw[if_pos (by omega),if_pos (by omega),if_neg (by simpa using hp),ca (n:=l.length) hi (by omega)]
 ·refine Ev.ends (fun k=>?_);simp only[fS.l0];rw[if_pos (by omega),if_pos (by omega),if_pos (by simpa using hp)]
 ·refine Ev.ends (fun k=>?_);simp only[fS.l0];rw[if_neg (by omega)]
theorem pj (l:List ai) (h:l.length≤1048576) (id:Int):Ev (fun k=>ga.f k l id) (named l id):=by
 refine Ev.congr (fun k=>?_) (jN (fun i k=>ga.l0 k id l (l.length:Int) (i:Int)) l.length _ _ _ (fun i r hi hp h=>?_) (fun i hi hp=>?_) ?_)
 ·simp only[ga.f];rfl
 ·refine Ev.step (fun k=>?_) h;simp only[ga.l0];rw[if_pos (by omega),if_pos (by omega),if_pos (by omega),if_neg (by simpa using hp),ca (n:=l.length) hi (by omega)]
 ·refine Ev.ends (fun k=>?_);simp only[ga.l0];rw[if_pos (by omega),if_pos (by omega),if_pos (by omega),if_pos (by simpa using hp)]
 ·refine Ev.ends (fun k=>?_);simp only[ga.l0];rw[if_neg (by omega)]
theorem GU {l:List ai} {id:Int} (h:named l id=true):id ∈ l.map (fun e=>e.f1):=by
 obtain⟨j,_,h2,h3⟩:=Ar _ _ h;simp only[decide_eq_true_eq]at h3;rw[←h3];exact List.mem_map.2 ⟨_,zk (by omega),rfl⟩
def jJ (l:List ak) (id:Int):Int:=cm (fun i=>decide ((aa l (i:Int)).f0=id)) (fun i=>(i:Int)) (-1) 0 l.length
theorem KQ (l:List ak) (b c:List ai) (n:Int) (h:l.length≤1048576) (id:Int):Ev (fun k=>lV.f k l b c n id) (jJ l id):=by
 refine Ev.congr (fun k=>?_) (jN (fun i k=>lV.l0 k id (i:Int) l b c n) l.length _ _ _ (fun i r hi hp h=>?_) (fun i hi hp=>?_) ?_)
 ·simp only[lV.f];rfl
 ·refine Ev.step (fun k=>?_) h;simp only[lV.l0];rw[if_pos (by omega),if_pos (by omega),if_neg (by simpa using hp),ca (n:=l.length) hi (by omega)]
 ·refine Ev.ends (fun k=>?_);simp only[lV.l0];rw[if_pos (by omega),if_pos (by omega),if_pos (by simpa using hp)]
 ·refine Ev.ends (fun k=>?_);simp only[lV.l0];rw[if_neg (by omega)]
theorem KN (l:List ak) (b c:List ai) (n:Int) (h:l.length≤1048576) (id:Int):Ev (fun k=>l9.f k l b c n id) (jJ l id):=by
 refine Ev.congr (fun k=>?_) (jN (fun i k=>l9.l0 k id l (l.length:Int) (i:Int)) l.length _ _ _ (fun i r hi hp h=>?_) (fun i hi hp=>?_) ?_)
 ·simp only[l9.f];rfl
 ·refine Ev.step (fun k=>?_) h;simp only[l9.l0];rw[if_pos (by omega),if_pos (by omega),if_pos (by omega),if_neg (by simpa using hp),ca (n:=l.length) hi (by omega)]
 ·refine Ev.ends (fun k=>?_);simp only[l9.l0];rw[if_pos (by omega),if_pos (by omega),if_pos (by omega),if_pos (by simpa using hp)]
 ·refine Ev.ends (fun k=>?_);simp only[l9.l0];rw[if_neg (by omega)]
theorem Pj (s:ByteArray) (i:Int):0≤bt s i∧bt s i≤255:=by
 unfold bt;split
 ·have:=UInt8.toNat_lt (s[i.toNat]'(by assumption));omega
 ·omega
def pa (c:Int):Bool:=decide (¬((97≤c∧c≤122)∨(48≤c∧c≤57)∨c=45∨c=46))
def eB (s:ByteArray):Bool:=decide (1≤(s.size:Int)∧(s.size:Int)≤12)&&cm (fun i=>pa (bt s (i:Int))) (fun _=>false) true 0 s.size
theorem GK (k:Nat) (s:ByteArray) (i:Nat) (hi:i<s.size):gi.l0 (k+1) s (i:Int)=gi.j1 k s (i:Int) (pa (bt s (i:Int))):=by
 simp only[gi.l0];rw[if_pos (by omega),if_pos (by omega)];generalize bt s (i:Int)=c
 unfold pa
 (repeat' split)<;>(congr 1;rw[Bool.eq_iff_iff];simp;omega)
theorem GJ (s:ByteArray) (h:s.size≤9223372036854775807):Ev (fun k=>gi.f k s) (eB s):=by
 have hn:eB s=cm (fun i=>pa (bt s (i:Int))) (fun _=>false) (decide (1≤(s.size:Int)∧(s.size:Int)≤12)) 0 s.size:=by
  unfold eB;rw[nJ,nJ,Bool.and_true,Bool.and_comm]
 rw[hn];refine Ev.congr (fun k=>?_) (jN (fun i k=>gi.l0 k s (i:Int)) s.size _ _ _ (fun i r hi hp h=>?_) (fun i hi hp=>?_) ?_)
 ·simp only[gi.f];rfl
 ·refine Ev.step (fun k=>GK k s i hi) (Ev.step (f:=fun k=>gi.l0 k s ((i+1:Nat):Int)) (fun k=>?_) h);simp only[gi.j1];rw[if_neg (by simpa using hp),ca (n:=s.size) hi (by omega)]
 ·refine Ev.step (fun k=>GK k s i hi) (Ev.ends (fun k=>?_));simp only[gi.j1];rw[if_pos (by simpa using hp)]
 ·refine Ev.ends (fun k=>?_);simp only[gi.l0,nL.f];rw[if_neg (by omega)];split<;>(simp only[Option.bind_some];congr 1;rw[Bool.eq_iff_iff];simp;omega)
theorem Hd (k:Nat) (s:ByteArray) (i:Nat) (hi:i<s.size):eO.l0 (k+1) s (i:Int)=eO.j1 k s (i:Int) (pa (bt s (i:Int))):=by
 have hb:=Pj s (i:Int);have hw:wrap64 (bt s (i:Int))=bt s (i:Int):=fj (by omega) (by omega);simp only[eO.l0,gY.f,hw];rw[if_pos (by omega),if_pos (by omega)];generalize bt s (i:Int)=c
 unfold pa;by_cases a1:c≥97<;>by_cases a2:c≤122<;>by_cases a3:c≥48<;>by_cases a4:c≤57<;>by_cases a5:c=45<;>simp only[a1,a2,a3,a4,a5,if_true,if_false,Option.bind_some,decide_true,decide_false,Bool.false_eq_true,reduceIte]<;>first|rfl|(congr 1;done)|(congr 1;rw[Bool.eq_iff_iff];simp;done)|(congr 1;rw[Bool.eq_iff_iff];simp;omega)
theorem EI (s:ByteArray) (h:s.size≤9223372036854775807):Ev (fun k=>eO.f k s) (eB s):=by
 have hl:Ev (fun k=>eO.l0 k s 0) (cm (fun i=>pa (bt s (i:Int))) (fun _=>false) true 0 s.size):=by
  refine jN (fun i k=>eO.l0 k s (i:Int)) s.size _ _ _ (fun i r hi hp h=>?_) (fun i hi hp=>?_) ?_
  ·refine Ev.step (fun k=>Hd k s i hi) (Ev.step (f:=fun k=>eO.l0 k s ((i+1:Nat):Int)) (fun k=>?_) h);simp only[eO.j1];rw[if_neg (by simpa using hp),ca (n:=s.size) hi (by omega)]
  ·refine Ev.step (fun k=>Hd k s i hi) (Ev.ends (fun k=>?_));simp only[eO.j1];rw[if_pos (by simpa using hp)]
  ·refine Ev.ends (fun k=>?_);simp only[eO.l0];rw[if_neg (by omega)]
 unfold eB;by_cases h1:1≤(s.size:Int)∧(s.size:Int)≤12
 ·rw[decide_eq_true h1,Bool.true_and];refine Ev.congr (fun k=>?_) hl;simp only[eO.f,gY.f];rw[if_pos (by omega),Option.bind_some,if_pos (by simpa using h1.2)]
 ·rw[decide_eq_false h1,Bool.false_and];refine Ev.all (fun k=>?_);simp only[eO.f,gY.f];split
  ·simp only[Option.bind_some];rw[if_neg (by simp;omega)]
  ·simp
def rV (ds:List ak) (l:List ai) (i:Nat):Bool:=
 !eB (aq l (i:Int)).f0 || decide (jJ ds (aq l (i:Int)).f1<0) || (decide (0<i) && !Op.bytesLess (aq l ((i-1:Nat):Int)).f0.toList (aq l (i:Int)).f0.toList) || named (l.take i) (aq l (i:Int)).f1
def dX (ds:List ak) (l:List ai):Bool:=cm (rV ds l) (fun _=>false) (decide ((l.length:Int)≤30)) 0 l.length
theorem wo {i n:Nat} (h:i<n) (hn:n≤9223372036854775807) (h0:0<i):wrap64 ((i:Int)-1)=((i-1:Nat):Int):=by unfold wrap64;omega
theorem GH (ds:List ak) (b c:List ai) (n:Int) (l:List ai) (h0:ds.length≤1048576) (h:l.length≤1048576) (hz:∀e ∈ l,e.f0.size≤9223372036854775807):Ev (fun k=>dU.f k ds b c n l) (dX ds l):=by
 have body:∀i,i<l.length→∃K,∀k,K≤k→dU.l0 (k+1) l l (l.length:Int) (i:Int) ds b c n=dU.j1 k l l (l.length:Int) (i:Int) (rV ds l i) ds b c n:=by
  intro i hi;obtain⟨K1,e1⟩:=GJ (aq l (i:Int)).f0 (hz _ (zk hi));obtain⟨K2,e2⟩:=KN ds b c n h0 (aq l (i:Int)).f1;obtain⟨K3,e3⟩:=pj (l.take i) (by rw[List.length_take];omega) (aq l (i:Int)).f1;dsimp only at e1 e2 e3;refine⟨K1+K2+K3,fun k hk=>?_⟩;simp only[dU.l0];rw[if_pos (by omega),if_pos (by omega),if_pos (by omega),e1 k (by omega),Option.bind_some];unfold rV;cases hn:eB (aq l (i:Int)).f0
  ·rw[if_neg (by decide)];rfl
  rw[if_pos rfl,e2 k (by omega),Option.bind_some];by_cases np:jJ ds (aq l (i:Int)).f1<0
  ·rw[if_pos np];simp[np]
  rw[if_neg np,decide_eq_false np];by_cases hp:(i:Int)>0
  ·have hp':0<i:=by omega
   rw[if_pos hp,wo hi (by omega) hp',if_pos (by omega),if_pos (by omega),decide_eq_true hp'];cases hb:Op.bytesLess (aq l ((i-1:Nat):Int)).f0.toList (aq l (i:Int)).f0.toList
   ·rw[if_neg (by decide)];rfl
   ·rw[if_pos rfl,if_pos (by omega),Int.toNat_natCast,e3 k (by omega),Option.bind_some];rfl
  ·have hp':¬0<i:=by omega
   rw[if_neg hp,if_pos (by omega),Int.toNat_natCast,e3 k (by omega),Option.bind_some,decide_eq_false hp'];rfl
 refine Ev.congr (fun k=>?_) (jN (fun i k=>dU.l0 k l l (l.length:Int) (i:Int) ds b c n) l.length _ _ _ (fun i r hi hp h=>?_) (fun i hi hp=>?_) ?_)
 ·simp only[dU.f];rfl
 ·refine Ev.round (body i hi) (Ev.step (f:=fun k=>dU.l0 k l l (l.length:Int) ((i+1:Nat):Int) ds b c n) (fun k=>?_) h);simp only[dU.j1];rw[if_neg (by simpa using hp),ca (n:=l.length) hi (by omega)]
 ·refine Ev.round (body i hi) (Ev.ends (fun k=>?_));simp only[dU.j1];rw[if_pos (by simpa using hp)]
 ·refine Ev.ends (fun k=>?_);simp only[dU.l0];rw[if_neg (by omega)]
def qJ (ds:List ak) (l:List ai) (i:Nat):Bool:=
 !eB (aq l (i:Int)).f0 || decide (jJ ds (aq l (i:Int)).f1<0) || (decide (0<i) && !Op.bytesLess (aq l ((i-1:Nat):Int)).f0.toList (aq l (i:Int)).f0.toList)
theorem GV (l:List ai) (i:Nat) (hi:i≤l.length) (id:Int):named (l.take i) id=cm (fun j=>decide ((aq l (j:Int)).f1=id)) (fun _=>true) false 0 i:=by
 unfold named;rw[List.length_take,Nat.min_eq_left hi];refine F0 _ _ (fun j _ h2=>?_);rw[Rx l i j (by omega)]
theorem Hc (ds:List ak) (b c:List ai) (n:Int) (l:List ai) (h0:ds.length≤1048576) (h:l.length≤1048576) (hz:∀e ∈ l,e.f0.size≤9223372036854775807):Ev (fun k=>cp.f k ds b c n l) (dX ds l):=by
 have body:∀i,i<l.length→∃K,∀k,K≤k→cp.l0 (k+1) l (i:Int) ds b c n=cp.j1 k l (i:Int) (qJ ds l i) ds b c n:=by
  intro i hi;obtain⟨K1,e1⟩:=EI (aq l (i:Int)).f0 (hz _ (zk hi));obtain⟨K2,e2⟩:=KQ ds b c n h0 (aq l (i:Int)).f1;dsimp only at e1 e2;refine⟨K1+K2,fun k hk=>?_⟩;simp only[cp.l0];rw[if_pos (by omega),if_pos (by omega),e1 k (by omega),Option.bind_some];unfold qJ;cases hn:eB (aq l (i:Int)).f0
  ·rw[if_neg (by decide)];rfl
  rw[if_pos rfl,e2 k (by omega),Option.bind_some];by_cases np:jJ ds (aq l (i:Int)).f1<0
  ·rw[if_pos np];simp[np]
  rw[if_neg np,decide_eq_false np];by_cases hp:(i:Int)>0
  ·have hp':0<i:=by omega
   rw[if_pos hp,wo hi (by omega) hp',if_pos (by omega),if_pos (by omega),decide_eq_true hp'];rfl
  ·have hp':¬0<i:=by omega
   rw[if_neg hp,decide_eq_false hp'];rfl
 have inner:∀i,i<l.length→∀r,Ev (fun k=>cp.l0 k l ((i+1:Nat):Int) ds b c n) r→Ev (fun k=>cp.l1 k l (i:Int) 0 ds b c n) (cm (fun j=>decide ((aq l (j:Int)).f1=(aq l (i:Int)).f1)) (fun _=>false) r 0 i):=by
  intro i hi r hr;refine jN (fun j k=>cp.l1 k l (i:Int) (j:Int) ds b c n) i _ _ _ (fun j r hj hp h=>?_) (fun j hj hp=>?_) ?_
  ·refine Ev.step (fun k=>?_) h;simp only[cp.l1];rw[if_pos (by omega),if_pos (by omega),if_pos (by omega),if_pos (by omega),if_pos (by omega),if_neg (by simpa using hp),ca (n:=i) hj (by omega)]
  ·refine Ev.ends (fun k=>?_);simp only[cp.l1];rw[if_pos (by omega),if_pos (by omega),if_pos (by omega),if_pos (by omega),if_pos (by omega),if_pos (by simpa using hp)]
  ·refine Ev.step (fun k=>?_) hr;simp only[cp.l1];rw[if_neg (by omega),ca (n:=l.length) hi (by omega)]
 refine Ev.congr (fun k=>?_) (jN (fun i k=>cp.l0 k l (i:Int) ds b c n) l.length _ _ _ (fun i r hi hp h=>?_) (fun i hi hp=>?_) ?_)
 ·simp only[cp.f];rfl
 ·have hq:qJ ds l i=false∧named (l.take i) (aq l (i:Int)).f1=false:=by
   unfold rV at hp;simpa[qJ] using hp
  have h2:=inner i hi r h;rw[nJ,←GV l i (by omega),hq.2]at h2;refine Ev.round (body i hi) (Ev.step (f:=fun k=>cp.l1 k l (i:Int) 0 ds b c n) (fun k=>?_) (by simpa using h2));simp only[cp.j1];rw[if_neg (by rw[hq.1];decide)]
 ·refine Ev.round (body i hi) ?_;cases hb:qJ ds l i
  ·have hnm:named (l.take i) (aq l (i:Int)).f1=true:=by
    have hp':(qJ ds l i || named (l.take i) (aq l (i:Int)).f1)=true:=hp;rw[hb]at hp';simpa using hp'
   have hin:Ev (fun k=>cp.l1 k l (i:Int) 0 ds b c n) false:=by
    rw[GV l i (by omega)]at hnm;obtain⟨j0,_,Gq,Qe⟩:=Ar _ _ hnm
    have hfin:∀(d j:Nat),j+d=j0+1→(∀m,j≤m→m<j+d→m<i)→Ev (fun k=>cp.l1 k l (i:Int) (j:Int) ds b c n) false∨d=0:=by
     intro d
     induction d with
     |zero=>intro j _ _;exact Or.inr rfl
     |succ d ih=>
      intro j hj hm;left;by_cases xm:(aq l (j:Int)).f1=(aq l (i:Int)).f1
      ·refine Ev.ends (fun k=>?_);simp only[cp.l1];rw[if_pos (by have:=hm j (by omega) (by omega);omega),if_pos (by omega),if_pos (by have:=hm j (by omega) (by omega);omega),if_pos (by omega),if_pos (by omega),if_pos xm]
      ·rcases ih (j+1) (by omega) (fun m h1 h2=>hm m (by omega) (by omega)) with h|h
       ·refine Ev.step (fun k=>?_) h;simp only[cp.l1];rw[if_pos (by have:=hm j (by omega) (by omega);omega),if_pos (by omega),if_pos (by have:=hm j (by omega) (by omega);omega),if_pos (by omega),if_pos (by omega),if_neg xm,ca (n:=i) (hm j (by omega) (by omega)) (by omega)]
       ·have:j=j0:=by omega
        subst this;exact absurd (by simpa using Qe) xm
    rcases hfin (j0+1) 0 (by omega) (fun m _ h2=>by omega) with h|h
    ·exact h
    ·omega
   refine Ev.step (fun k=>?_) hin;simp only[cp.j1];rw[if_neg (by decide)]
  ·refine Ev.ends (fun k=>?_);simp only[cp.j1]
   first|rw[if_pos rfl]|rw[if_pos trivial]
 ·refine Ev.ends (fun k=>?_);simp only[cp.l0];rw[if_neg (by omega)]
def iB (ds:List ak) (ns ss:List ai) (nx:Int) (i:Nat):Bool:=
 !decide (1≤(aa ds (i:Int)).f0∧(aa ds (i:Int)).f0≤wrap64 (nx-1)) || !decide (0≤(aa ds (i:Int)).f2∧(aa ds (i:Int)).f2≤((aa ds (i:Int)).f1.length:Int)) || (decide (0<i)&&decide ((aa ds ((i-1:Nat):Int)).f0≥(aa ds (i:Int)).f0)) || (!named ns (aa ds (i:Int)).f0 && !named ss (aa ds (i:Int)).f0)
def fx (ds:List ak):Nat→Int
 |0=>0
 |i+1=>fx ds i+((aa ds (i:Int)).f1.length:Int)
theorem AH (ds:List ak) (hd:∀x ∈ ds,x.f1.length≤4194304):∀i,i≤ds.length→0≤fx ds i∧fx ds i≤(i:Int)*4194304
 |0,_=>by simp[fx]
 |i+1,h=>by
  have h1:=AH ds hd i (by omega);have h2:=hd _ (rZ (show i<ds.length by omega));simp only[fx];omega
def nc (ds:List ak) (ns ss:List ai) (nx:Int):Bool:=!cm (iB ds ns ss nx) (fun _=>true) false 0 ds.length
def cN (ds:List ak) (ns ss:List ai) (nx:Int):Bool:=
 decide (1≤nx∧nx≤1000000)&&(nc ds ns ss nx&&(decide (fx ds ds.length≤60000)&&(dX ds ns&&dX ds ss)))
theorem qL (a b c:Int):(if a≥b then (some (decide (a≤c))) else (some false))=some (decide (b≤a∧a≤c)):=by
 split
 ·congr 1;rw[Bool.eq_iff_iff];simp;omega
 ·congr 1;rw[Bool.eq_iff_iff];simp;omega
theorem Qi (ds:List ak) (ns ss:List ai) (nx:Int) (h0:ds.length≤1048576) (hd:∀x ∈ ds,x.f1.length≤4194304) (h1:ns.length≤1048576) (h2:ss.length≤1048576) (z1:∀e ∈ ns,e.f0.size≤9223372036854775807) (z2:∀e ∈ ss,e.f0.size≤9223372036854775807):Ev (fun k=>da.f k ds ns ss nx) (cN ds ns ss nx):=by
 have body:∀i,i<ds.length→∀s,∃K,∀k,K≤k→da.l0 (k+1) s ds (ds.length:Int) (i:Int) ds ns ss nx=da.j1 k s ds (ds.length:Int) (i:Int) (iB ds ns ss nx i) ds ns ss nx (aa ds (i:Int)).f0 (aa ds (i:Int)).f1 (aa ds (i:Int)).f2:=by
  intro i hi s;obtain⟨K1,e1⟩:=pj ns h1 (aa ds (i:Int)).f0;obtain⟨K2,e2⟩:=pj ss h2 (aa ds (i:Int)).f0;dsimp only at e1 e2;refine⟨K1+K2,fun k hk=>?_⟩;simp only[da.l0,nL.f,qL];rw[if_pos (by omega),if_pos (by omega),if_pos (by omega),Option.bind_some];unfold iB;by_cases c1:1≤(aa ds (i:Int)).f0∧(aa ds (i:Int)).f0≤wrap64 (nx-1)
  case neg=>rw[decide_eq_false c1,if_neg (by decide)];rfl
  rw[decide_eq_true c1,if_pos rfl,Option.bind_some];by_cases c2:0≤(aa ds (i:Int)).f2∧(aa ds (i:Int)).f2≤((aa ds (i:Int)).f1.length:Int)
  case neg=>rw[decide_eq_false c2,if_neg (by decide)];rfl
  rw[decide_eq_true c2,if_pos rfl];by_cases hp:(i:Int)>0
  ·have hp':0<i:=by omega
   rw[if_pos hp,wo hi (by omega) hp',if_pos (by omega),if_pos (by omega),decide_eq_true hp'];by_cases c3:(aa ds ((i-1:Nat):Int)).f0≥(aa ds (i:Int)).f0
   ·rw[if_pos c3,decide_eq_true c3];rfl
   rw[if_neg c3,decide_eq_false c3,e1 k (by omega),Option.bind_some];cases hn:named ns (aa ds (i:Int)).f0
   ·rw[if_neg (by decide),e2 k (by omega),Option.bind_some];rfl
   ·rw[if_pos rfl];rfl
  ·have hp':¬0<i:=by omega
   rw[if_neg hp,decide_eq_false hp',e1 k (by omega),Option.bind_some];cases hn:named ns (aa ds (i:Int)).f0
   ·rw[if_neg (by decide),e2 k (by omega),Option.bind_some];rfl
   ·rw[if_pos rfl];rfl
 have hv:cN ds ns ss nx=cm (iB ds ns ss nx) (fun _=>false) (decide (1≤nx∧nx≤1000000)&&(decide (fx ds ds.length≤60000)&&(dX ds ns&&dX ds ss))) 0 ds.length:=by
  rw[nJ];unfold cN nc;cases decide (1≤nx∧nx≤1000000)<;>simp
 rw[hv];have pl:=AH ds hd;refine Ev.congr (fun k=>?_) (jN (fun i k=>da.l0 k (fx ds i) ds (ds.length:Int) (i:Int) ds ns ss nx) ds.length _ _ _ (fun i r hi hp h=>?_) (fun i hi hp=>?_) ?_)
 ·simp only[da.f];rfl
 ·refine Ev.round (body i hi _) (Ev.step (f:=fun k=>da.l0 k (fx ds (i+1)) ds (ds.length:Int) ((i+1:Nat):Int) ds ns ss nx) (fun k=>?_) h);have b1:=pl (i+1) (by omega);simp only[fx]at b1;simp only[da.j1,fx];rw[if_neg (by simpa using hp),ca (n:=ds.length) hi (by omega),fj (by omega) (by omega)]
 ·refine Ev.round (body i hi _) (Ev.ends (fun k=>?_));simp only[da.j1];rw[if_pos (by simpa using hp)]
 ·obtain⟨K1,e1⟩:=GH ds ns ss nx ns h0 h1 z1;obtain⟨K2,e2⟩:=GH ds ns ss nx ss h0 h2 z2;dsimp only at e1 e2;refine Ev.round (f:=fun _=>some _) ⟨K1+K2,fun k hk=>?_⟩ (Ev.now _);simp only[da.l0,nL.f,qL];rw[if_neg (by omega),Option.bind_some];by_cases c1:1≤nx∧nx≤1000000
  case neg=>rw[decide_eq_false c1,if_neg (by decide)];rfl
  rw[decide_eq_true c1,if_pos rfl];by_cases c2:fx ds ds.length≤60000
  case neg=>rw[if_neg c2,decide_eq_false c2];rfl
  rw[if_pos c2,decide_eq_true c2,e1 k (by omega),Option.bind_some];cases dX ds ns
  ·rw[if_neg (by decide)];rfl
  ·rw[if_pos rfl,e2 k (by omega),Option.bind_some];rfl
theorem G4:∀(n:Nat) (f:Nat→Int) (m:List Int),(∀i j,i<j→j<n→f i≠f j)→(∀i,i<n→f i ∈ m)→n≤m.length
 |0,_,_,_,_=>Nat.zero_le _
 |n+1,f,m,hne,hm=>by
  have hn:=hm n (by omega);have h:=G4 n f (m.erase (f n)) (fun i j h1 h2=>hne i j h1 (by omega)) (fun i hi=>(List.mem_erase_of_ne (hne i n hi (by omega))).2 (hm i (by omega)));rw[List.length_erase_of_mem hn]at h;have:0<m.length:=List.length_pos_of_mem hn;omega
theorem DC {ds:List ak} {l:List ai} (h:dX ds l=true):l.length≤30:=by
 unfold dX at h;rw[nJ,Bool.and_eq_true,decide_eq_true_eq]at h;omega
theorem uy {ds:List ak} {ns ss:List ai} {nx:Int} (h:nc ds ns ss nx=true) (i:Nat) (hi:i<ds.length):iB ds ns ss nx i=false:=
 xW _ _ (by simpa[nc] using h) i (by omega) (by omega)
theorem GL {ds:List ak} {ns ss:List ai} {nx:Int} {i:Nat} (h:iB ds ns ss nx i=false) (hi:0<i):(aa ds ((i-1:Nat):Int)).f0<(aa ds (i:Int)).f0:=by
 unfold iB at h;rw[Bool.or_eq_false_iff,Bool.or_eq_false_iff,decide_eq_true hi,Bool.true_and,decide_eq_false_iff_not]at h;omega
theorem GM {ds:List ak} {ns ss:List ai} {nx:Int} (h:nc ds ns ss nx=true):∀(d i:Nat),i+d+1<ds.length→(aa ds (i:Int)).f0<(aa ds ((i+d+1:Nat):Int)).f0
 |0,i,hi=>GL (uy h (i+1) (by omega)) (by omega)
 |d+1,i,hi=>by
  have h1:=GM h d i (by omega);have h2:=GL (uy h (i+d+1+1) (by omega)) (by omega);rw[show i+d+1+1-1=i+d+1 from rfl]at h2;rw[show i+(d+1)+1=i+d+1+1 from by omega];omega
theorem Mp {ds:List ak} {ns ss:List ai} {nx:Int} (h:nc ds ns ss nx=true) (h1:dX ds ns=true) (h2:dX ds ss=true):ds.length≤60:=by
 have l1:=DC h1;have l2:=DC h2
 have hp:=G4 ds.length (fun i=>(aa ds (i:Int)).f0) (ns.map (fun e=>e.f1)++ss.map (fun e=>e.f1)) (fun i j hij hj=>by
  have:=GM h (j-i-1) i (by omega);have e:i+(j-i-1)+1=j:=by omega
  rw[e]at this;show (aa ds (i:Int)).f0≠(aa ds (j:Int)).f0;omega) (fun i hi=>by
  have hb:=uy h i hi;unfold iB at hb;rw[Bool.or_eq_false_iff,Bool.and_eq_false_iff]at hb
  rcases hb.2 with hb|hb
  ·exact List.mem_append_left _ (GU (by simpa using hb))
  ·exact List.mem_append_right _ (GU (by simpa using hb)))
 rw[List.length_append,List.length_map,List.length_map]at hp;omega
theorem Ry (ds:List ak) (ns ss:List ai) (nx:Int) (h0:ds.length≤1048576) (hd:∀x ∈ ds,x.f1.length≤4194304) (h1:ns.length≤1048576) (h2:ss.length≤1048576) (z1:∀e ∈ ns,e.f0.size≤9223372036854775807) (z2:∀e ∈ ss,e.f0.size≤9223372036854775807):Ev (fun k=>bL.f k ds ns ss nx) (cN ds ns ss nx):=by
 have body:∀i,i<ds.length→∀s,∃K,∀k,K≤k→bL.l0 (k+1) s (i:Int) ds ns ss nx=bL.j2 k s (i:Int) (iB ds ns ss nx i) ds ns ss nx (aa ds (i:Int)).f0 (aa ds (i:Int)).f1 (aa ds (i:Int)).f2:=by
  intro i hi s;obtain⟨K1,e1⟩:=wa ns h1 (aa ds (i:Int)).f0;obtain⟨K2,e2⟩:=wa ss h2 (aa ds (i:Int)).f0;dsimp only at e1 e2;refine⟨K1+K2,fun k hk=>?_⟩;simp only[bL.l0,gY.f,qL];rw[if_pos (by omega),if_pos (by omega),Option.bind_some];unfold iB;by_cases c1:1≤(aa ds (i:Int)).f0∧(aa ds (i:Int)).f0≤wrap64 (nx-1)
  case neg=>rw[decide_eq_false c1,if_neg (by decide)];rfl
  rw[decide_eq_true c1,if_pos rfl,Option.bind_some]
  have tail:(if decide (0≤(aa ds (i:Int)).f2∧(aa ds (i:Int)).f2≤((aa ds (i:Int)).f1.length:Int))=true then ((fS.f k ns (aa ds (i:Int)).f0).bind fun t152=>(if t152=true then (bL.j2 k s (i:Int) false ds ns ss nx (aa ds (i:Int)).f0 (aa ds (i:Int)).f1 (aa ds (i:Int)).f2) else ((fS.f k ss (aa ds (i:Int)).f0).bind fun t153=>(bL.j2 k s (i:Int) (!t153) ds ns ss nx (aa ds (i:Int)).f0 (aa ds (i:Int)).f1 (aa ds (i:Int)).f2)))) else (bL.j2 k s (i:Int) true ds ns ss nx (aa ds (i:Int)).f0 (aa ds (i:Int)).f1 (aa ds (i:Int)).f2))=bL.j2 k s (i:Int) (!decide (0≤(aa ds (i:Int)).f2∧(aa ds (i:Int)).f2≤((aa ds (i:Int)).f1.length:Int)) || (!named ns (aa ds (i:Int)).f0 && !named ss (aa ds (i:Int)).f0)) ds ns ss nx (aa ds (i:Int)).f0 (aa ds (i:Int)).f1 (aa ds (i:Int)).f2:=by
   by_cases c2:0≤(aa ds (i:Int)).f2∧(aa ds (i:Int)).f2≤((aa ds (i:Int)).f1.length:Int)
   case neg=>rw[decide_eq_false c2,if_neg (by decide)];rfl
   rw[decide_eq_true c2,if_pos rfl,e1 k (by omega),Option.bind_some];cases hn:named ns (aa ds (i:Int)).f0
   ·rw[if_neg (by decide),e2 k (by omega),Option.bind_some];rfl
   ·rw[if_pos rfl];rfl
  by_cases hp:(i:Int)>0
  ·have hp':0<i:=by omega
   rw[if_pos hp,wo hi (by omega) hp',if_pos (by omega),if_pos (by omega),decide_eq_true hp'];by_cases c3:(aa ds ((i-1:Nat):Int)).f0≥(aa ds (i:Int)).f0
   ·rw[if_pos c3,decide_eq_true c3];simp
   rw[if_neg c3,decide_eq_false c3,tail];simp
  ·have hp':¬0<i:=by omega
   rw[if_neg hp,decide_eq_false hp',tail];simp
 have hv:cN ds ns ss nx=(decide (1≤nx∧nx≤1000000)&&(!decide ((ds.length:Int)>60)&&cm (iB ds ns ss nx) (fun _=>false) (decide (fx ds ds.length≤60000)&&(dX ds ns&&dX ds ss)) 0 ds.length)):=by
  rw[nJ];unfold cN;rw[show (!cm (iB ds ns ss nx) (fun _=>true) false 0 ds.length)=nc ds ns ss nx from rfl];cases ha:nc ds ns ss nx<;>cases hb:dX ds ns<;>cases hc:dX ds ss<;>first|(have h60:=Mp ha hb hc;rw[decide_eq_false (show ¬((ds.length:Int)>60) by omega)];simp;done)|simp
 rw[hv];have pl:=AH ds hd
 have loop:Ev (fun k=>bL.l0 k 0 0 ds ns ss nx) (cm (iB ds ns ss nx) (fun _=>false) (decide (fx ds ds.length≤60000)&&(dX ds ns&&dX ds ss)) 0 ds.length):=by
  refine jN (fun i k=>bL.l0 k (fx ds i) (i:Int) ds ns ss nx) ds.length _ _ _ (fun i r hi hp h=>?_) (fun i hi hp=>?_) ?_
  ·refine Ev.round (body i hi _) (Ev.step (f:=fun k=>bL.l0 k (fx ds (i+1)) ((i+1:Nat):Int) ds ns ss nx) (fun k=>?_) h);have b1:=pl (i+1) (by omega);simp only[fx]at b1;simp only[bL.j2,fx];rw[if_neg (by simpa using hp),ca (n:=ds.length) hi (by omega),fj (by omega) (by omega)]
  ·refine Ev.round (body i hi _) (Ev.ends (fun k=>?_));simp only[bL.j2];rw[if_pos (by simpa using hp)]
  ·obtain⟨K1,e1⟩:=Hc ds ns ss nx ns h0 h1 z1;obtain⟨K2,e2⟩:=Hc ds ns ss nx ss h0 h2 z2;dsimp only at e1 e2;refine Ev.round (f:=fun _=>some _) ⟨K1+K2,fun k hk=>?_⟩ (Ev.now _);simp only[bL.l0];rw[if_neg (by omega)];by_cases c2:fx ds ds.length≤60000
   case neg=>rw[if_neg c2,decide_eq_false c2];rfl
   rw[if_pos c2,decide_eq_true c2,e1 k (by omega),Option.bind_some];cases dX ds ns
   ·rw[if_neg (by decide)];rfl
   ·rw[if_pos rfl,e2 k (by omega),Option.bind_some];rfl
 by_cases c1:1≤nx∧nx≤1000000
 ·rw[decide_eq_true c1,Bool.true_and];by_cases c2:(ds.length:Int)>60
  ·rw[decide_eq_true c2];refine Ev.ends (fun k=>?_);simp only[bL.f,gY.f,qL];rw[decide_eq_true c1,Option.bind_some,if_pos rfl,decide_eq_true c2];simp only[bL.j0];rfl
  ·rw[decide_eq_false c2];refine Ev.step (fun k=>?_) loop;simp only[bL.f,gY.f,qL];rw[decide_eq_true c1,Option.bind_some,if_pos rfl,decide_eq_false c2];simp only[bL.j0];rw[if_neg (by decide)]
 ·rw[decide_eq_false c1,Bool.false_and];refine Ev.ends (fun k=>?_);simp only[bL.f,gY.f,qL];rw[decide_eq_false c1,Option.bind_some,if_neg (by decide)];simp only[bL.j0];rfl
theorem xX (p:Nat→Bool):∀(d i:Nat),(∃j,i≤j∧j<i+d∧p j=true∧∀ {ρ:Type} (stop:Nat→ρ) (e:ρ),cm p stop e i d=stop j)∨((∀j,i≤j→j<i+d→p j=false)∧∀ {ρ:Type} (stop:Nat→ρ) (e:ρ),cm p stop e i d=e)
 |0,i=>Or.inr ⟨fun j h1 h2=>by omega,fun _ _=>rfl⟩
 |d+1,i=>by
  by_cases hp:p i=true
  ·exact Or.inl ⟨i,by omega,by omega,hp,fun stop e=>by simp only[cm];rw[if_pos hp]⟩
  ·rcases xX p d (i+1) with ⟨j,h1,h2,h3,h4⟩|⟨h1,h2⟩
   ·exact Or.inl ⟨j,by omega,by omega,h3,fun stop e=>by simp only[cm];rw[if_neg hp];exact h4 stop e⟩
   ·refine Or.inr ⟨fun j a b=>?_,fun stop e=>by simp only[cm];rw[if_neg hp];exact h2 stop e⟩;by_cases hj:j=i
    ·subst hj;simpa using hp
    ·exact h1 j (by omega) (by omega)
theorem RL {a b:ByteArray} (h:a.toList=b.toList):a=b:=by
 rw[ByteArray.toList_eq,ByteArray.toList_eq]at h;exact ByteArray.ext (Array.toList_inj.1 h)
theorem Px {ds:List ak} {l:List ai} (h:dX ds l=true) (i:Nat) (hi:i<l.length):eB (aq l (i:Int)).f0=true∧0≤jJ ds (aq l (i:Int)).f1:=by
 unfold dX at h;rw[nJ,Bool.and_eq_true]at h;have hb:=xW _ _ (by simpa using h.1) i (by omega) (by omega);unfold rV at hb;rw[Bool.or_eq_false_iff,Bool.or_eq_false_iff,Bool.or_eq_false_iff]at hb;obtain⟨⟨⟨h1,h2⟩,_⟩,_⟩:=hb;refine⟨by simpa using h1,?_⟩;have:=of_decide_eq_false h2;omega
theorem NA {ds:List ak} {id:Int} (h:0≤jJ ds id):∃j,j<ds.length∧jJ ds id=(j:Int)∧(aa ds (j:Int)).f0=id:=by
 unfold jJ at h ⊢
 rcases xX (fun i=>decide ((aa ds (i:Int)).f0=id)) ds.length 0 with ⟨j,_,h2,h3,h4⟩|⟨_,h2⟩
 ·exact⟨j,by omega,h4 _ _,by simpa using h3⟩
 ·rw[h2]at h;omega
theorem Nz {ds:List ak} {ns ss:List ai} {nx:Int} {i:Nat} (h:iB ds ns ss nx i=false):1≤(aa ds (i:Int)).f0∧0≤(aa ds (i:Int)).f2∧(aa ds (i:Int)).f2≤((aa ds (i:Int)).f1.length:Int):=by
 unfold iB at h;rw[Bool.or_eq_false_iff,Bool.or_eq_false_iff,Bool.or_eq_false_iff]at h;obtain⟨⟨⟨h1,h2⟩,_⟩,_⟩:=h;have a:=of_decide_eq_true (by simpa using h1:decide (1≤(aa ds (i:Int)).f0∧(aa ds (i:Int)).f0≤wrap64 (nx-1))=true);have b:=of_decide_eq_true (by simpa using h2:decide (0≤(aa ds (i:Int)).f2∧(aa ds (i:Int)).f2≤((aa ds (i:Int)).f1.length:Int))=true);exact⟨a.1,b⟩
theorem BP {ds:List ak} {ns ss:List ai} {nx:Int} (h:cN ds ns ss nx=true):nc ds ns ss nx=true∧dX ds ns=true∧dX ds ss=true:=by
 unfold cN at h;simp only[Bool.and_eq_true]at h;exact⟨h.2.1,h.2.2.2.1,h.2.2.2.2⟩
theorem xV {β γ:Type} (L:Nat→List β→Nat→Option γ) (n:Nat) (p:Nat→Bool) (h:Nat→β) (fin:List β→γ)
 (yo:∀(i:Nat) (out:List β) (r:γ),i<n→out.length≤i→p i=true→Ev (fun k=>L k (out++[h i]) (i+1)) r→Ev (fun k=>L k out i) r)
 (kR:∀(i:Nat) (out:List β) (r:γ),i<n→out.length≤i→p i=false→Ev (fun k=>L k out (i+1)) r→Ev (fun k=>L k out i) r)
 (he:∀out:List β,out.length≤n→Ev (fun k=>L k out n) (fin out)):Ev (fun k=>L k [] 0) (fin (((List.range n).filter p).map h)):=by
 have key:∀(d i:Nat),i+d=n→Ev (fun k=>L k (((List.range i).filter p).map h) i) (fin (((List.range n).filter p).map h)):=by
  intro d
  induction d with
  |zero=>
   intro i hi;have:i=n:=by omega
   subst this;exact he _ (by rw[List.length_map];exact Nat.le_trans (List.length_filter_le _ _) (by simp))
  |succ d ih=>
   intro i hi;have hl:(((List.range i).filter p).map h).length≤i:=by rw[List.length_map];exact Nat.le_trans (List.length_filter_le _ _) (by simp)
   have hn:=ih (i+1) (by omega);rw[List.range_succ,List.filter_append,List.map_append]at hn;cases hp:p i
   ·refine kR i _ _ (by omega) hl hp ?_;simpa[hp] using hn
   ·refine yo i _ _ (by omega) hl hp ?_;simpa[hp] using hn
 exact key n 0 (by omega)
theorem Hb (ds:List ak):(List.range ds.length).map (fun (i:Nat)=>aa ds (i:Int))=ds:=by
 have:=AM ds (fun x=>x) z80;rw[List.map_id']at this;exact this
theorem Qu (ds:List ak) (ns ss:List ai) (nx:Int) (h0:ds.length≤1048576) (hd:∀x ∈ ds,x.f1.length≤4194304) (h1:ns.length≤1048576) (h2:ss.length≤1048576):Ev (fun k=>fE.f k ds ns ss nx) (ds,ns,ss,nx):=by
 have loop:=xV (fun k out i=>fE.l0 k (i:Int) ds ns ss nx out ns ss nx) ds.length (fun _=>true) (fun (i:Nat)=>aa ds (i:Int)) (fun out=>(out,ns,ss,nx)) (fun i out r hi ho _ h=>?_) (fun i out r hi ho hp h=>by simp at hp) (fun out ho=>?_)
 ·rw[List.filter_eq_self.2 (fun _ _=>rfl),Hb]at loop;refine Ev.congr (fun k=>?_) loop;simp only[fE.f,Option.bind_some,List.nil_append,List.length_nil];rw[if_pos (by omega),if_pos (by omega)];rfl
 ·have hm:=hd _ (rZ hi);refine Ev.step (fun k=>?_) h;simp only[fE.l0,Option.bind_some,List.nil_append,List.length_nil];rw[if_pos (by omega),if_pos (by omega),if_pos (by omega),if_pos (by omega),ca (n:=ds.length) hi (by omega)]
 ·refine Ev.ends (fun k=>?_);simp only[fE.l0];rw[if_neg (by omega)]
theorem Pt (ds:List ak) (ns ss:List ai) (nx:Int) (h0:ds.length≤1048576) (hd:∀x ∈ ds,x.f1.length≤4194304) (h1:ns.length≤1048576) (h2:ss.length≤1048576):Ev (fun k=>iA.f k ds ns ss nx) (ds,ns,ss,nx):=by
 have loop:=xV (fun k out i=>iA.l0 k ds (ds.length:Int) (i:Int) out ns ss nx) ds.length (fun _=>true) (fun (i:Nat)=>aa ds (i:Int)) (fun out=>(out,ns,ss,nx)) (fun i out r hi ho _ h=>?_) (fun i out r hi ho hp h=>by simp at hp) (fun out ho=>?_)
 ·rw[List.filter_eq_self.2 (fun _ _=>rfl),Hb]at loop;refine Ev.congr (fun k=>?_) loop;simp only[iA.f,List.nil_append,List.length_nil];rw[if_pos (by omega),if_pos (by omega)];rfl
 ·have hm:=hd _ (rZ hi);refine Ev.step (fun k=>?_) h;simp only[iA.l0,Ny.f,List.nil_append,List.length_nil];rw[if_pos (by omega),if_pos (by omega),if_pos (by omega),if_pos (by omega),Option.bind_some,if_pos (by omega),ca (n:=ds.length) hi (by omega)]
 ·refine Ev.ends (fun k=>?_);simp only[iA.l0];rw[if_neg (by omega)]
theorem PF {β γ:Type} (L:Nat→List β→Nat→Option γ) (n:Nat) (p:Nat→Bool) (h:Nat→β) (r:γ)
 (yo:∀(i:Nat) (out:List β) (r:γ),i<n→out.length≤i→p i=true→Ev (fun k=>L k (out++[h i]) (i+1)) r→Ev (fun k=>L k out i) r)
 (kR:∀(i:Nat) (out:List β) (r:γ),i<n→out.length≤i→p i=false→Ev (fun k=>L k out (i+1)) r→Ev (fun k=>L k out i) r)
 (he:Ev (fun k=>L k (((List.range n).filter p).map h) n) r):Ev (fun k=>L k [] 0) r:=by
 have key:∀(d i:Nat),i+d=n→Ev (fun k=>L k (((List.range i).filter p).map h) i) r:=by
  intro d
  induction d with
  |zero=>
   intro i hi;have:i=n:=by omega
   subst this;exact he
  |succ d ih=>
   intro i hi;have hl:(((List.range i).filter p).map h).length≤i:=by rw[List.length_map];exact Nat.le_trans (List.length_filter_le _ _) (by simp)
   have hn:=ih (i+1) (by omega);rw[List.range_succ,List.filter_append,List.map_append]at hn;cases hp:p i
   ·refine kR i _ _ (by omega) hl hp ?_;simpa[hp] using hn
   ·refine yo i _ _ (by omega) hl hp ?_;simpa[hp] using hn
 exact key n 0 (by omega)
def kept (ds:List ak) (ns ss:List ai):List ak:=((List.range ds.length).filter (fun (i:Nat)=>named ns (aa ds (i:Int)).f0 || named ss (aa ds (i:Int)).f0)).map (fun (i:Nat)=>aa ds (i:Int))
theorem Qq (ds:List ak) (ns ss:List ai):(kept ds ns ss).length≤ds.length:=by
 unfold kept;rw[List.length_map];exact Nat.le_trans (List.length_filter_le _ _) (by simp)
theorem Qr {ds:List ak} {ns ss:List ai} {x:ak} (h:x ∈ kept ds ns ss):x ∈ ds:=by
 obtain⟨i,hi,rfl⟩:=List.mem_map.1 h;exact rZ (by simpa using (List.mem_filter.1 hi).1)
abbrev lp:=List ak × List ai × List ai × Int × Int
def kj (d0:List ak) (n0 s0:List ai) (x0:Int) (ds:List ak) (ns ss:List ai) (nx:Int):lp:=
 if cN (kept ds ns ss) ns ss nx=true then (kept ds ns ss,ns,ss,nx,0) else (d0,n0,s0,x0,4)
structure Small (ds:List ak) (ns ss:List ai):Prop where
 h0:ds.length≤1048576
 hd:∀x ∈ ds,x.f1.length≤4194304
 h1:ns.length≤1048576
 h2:ss.length≤1048576
 z1:∀e ∈ ns,e.f0.size≤9223372036854775807
 z2:∀e ∈ ss,e.f0.size≤9223372036854775807
theorem Small.kept {ds:List ak} {ns ss:List ai} (h:Small ds ns ss):Small (kept ds ns ss) ns ss:=⟨Nat.le_trans (Qq ds ns ss) h.h0,fun x hx=>h.hd x (Qr hx),h.h1,h.h2,h.z1,h.z2⟩
theorem Small.spec {ds:List ak} {ns ss:List ai} (h:Small ds ns ss) (nx:Int):Ev (fun k=>bL.f k ds ns ss nx) (cN ds ns ss nx):=Ry ds ns ss nx h.h0 h.hd h.h1 h.h2 h.z1 h.z2
theorem Small.impl {ds:List ak} {ns ss:List ai} (h:Small ds ns ss) (nx:Int):Ev (fun k=>da.f k ds ns ss nx) (cN ds ns ss nx):=Qi ds ns ss nx h.h0 h.hd h.h1 h.h2 h.z1 h.z2
theorem Small.FQ {ds:List ak} {ns ss:List ai} (h:Small ds ns ss) (nx:Int):Ev (fun k=>fE.f k ds ns ss nx) (ds,ns,ss,nx):=Qu ds ns ss nx h.h0 h.hd h.h1 h.h2
theorem Small.Ao {ds:List ak} {ns ss:List ai} (h:Small ds ns ss) (nx:Int):Ev (fun k=>iA.f k ds ns ss nx) (ds,ns,ss,nx):=Pt ds ns ss nx h.h0 h.hd h.h1 h.h2
theorem Pw {d0:List ak} {n0 s0:List ai} {x0:Int} {ds:List ak} {ns ss:List ai} {nx:Int} (h0:Small d0 n0 s0) (h:Small ds ns ss):Small (kj d0 n0 s0 x0 ds ns ss nx).1 (kj d0 n0 s0 x0 ds ns ss nx).2.1 (kj d0 n0 s0 x0 ds ns ss nx).2.2.1:=by
 unfold kj;split
 ·exact h.kept
 ·exact h0
theorem Qj (mdo:Nat→List ak→List ai→List ai→Int→Option lp) (d0:List ak) (n0 s0:List ai) (x0:Int) (ds:List ak) (ns ss:List ai) (nx:Int) (e0:List ak) (h0:Small d0 n0 s0) (h:Small ds ns ss):Ev (fun k=>cC.l1 mdo k [] ds (ds.length:Int) 0 d0 n0 s0 x0 e0 ns ss nx) (kj d0 n0 s0 x0 ds ns ss nx):=by
 refine PF (fun k out i=>cC.l1 mdo k out ds (ds.length:Int) (i:Int) d0 n0 s0 x0 e0 ns ss nx) ds.length (fun (i:Nat)=>named ns (aa ds (i:Int)).f0 || named ss (aa ds (i:Int)).f0) (fun (i:Nat)=>aa ds (i:Int)) _ (fun i out r hi ho hp hh=>?_) (fun i out r hi ho hp hh=>?_) ?_
 ·obtain⟨K,e⟩:=pj ns h.h1 (aa ds (i:Int)).f0;obtain⟨K2,e2⟩:=pj ss h.h2 (aa ds (i:Int)).f0;dsimp only at e e2;have hb:=h.h0;refine Ev.round ⟨K+K2,fun k hk=>?_⟩ hh;simp only[cC.l1];rw[if_pos (by omega),if_pos (by omega),if_pos (by omega),e k (by omega),Option.bind_some];cases hq:named ns (aa ds (i:Int)).f0
  ·rw[hq,Bool.false_or]at hp;rw[if_neg (by decide),e2 k (by omega),Option.bind_some,hp,if_pos rfl,if_pos (by omega),ca (n:=ds.length) hi (by omega)]
  ·rw[if_pos rfl,if_pos (by omega),ca (n:=ds.length) hi (by omega)]
 ·obtain⟨K,e⟩:=pj ns h.h1 (aa ds (i:Int)).f0;obtain⟨K2,e2⟩:=pj ss h.h2 (aa ds (i:Int)).f0;dsimp only at e e2;rw[Bool.or_eq_false_iff]at hp;have hb:=h.h0;refine Ev.round ⟨K+K2,fun k hk=>?_⟩ hh;simp only[cC.l1];rw[if_pos (by omega),if_pos (by omega),if_pos (by omega),e k (by omega),Option.bind_some,hp.1,if_neg (by decide),e2 k (by omega),Option.bind_some,hp.2,if_neg (by decide),ca (n:=ds.length) hi (by omega)]
 ·refine Ev.step (f:=fun k=>(da.f k (kept ds ns ss) ns ss nx).bind fun t=>(if t=true then (some (kept ds ns ss,ns,ss,nx,0)) else ((iA.f k d0 n0 s0 x0).bind fun bt=>(some (bt.1,bt.2.1,bt.2.2.1,bt.2.2.2,4))))) (fun k=>?_) ?_
  ·simp only[cC.l1];rw[if_neg (by omega)];rfl
  ·refine Ev.bind' (h.kept.impl nx) ?_;unfold kj;cases cN (kept ds ns ss) ns ss nx
   ·simp only[Bool.false_eq_true,if_false];exact Ev.bind' (h0.Ao x0) (Ev.now _)
   ·simp only[if_true];exact Ev.now _
theorem Qp (ds:List ak) (ns ss:List ai) (nx:Int) (h0:ds.length≤1048576) (h1:ns.length≤1048576) (h2:ss.length≤1048576):Ev (fun k=>jg.f k ds ns ss nx) (kept ds ns ss,ns,ss,nx):=by
 have body:∀i,i<ds.length→∀out,∃K,∀k,K≤k→jg.l0 (k+1) out (i:Int) ds ns ss nx=jg.j1 k out (i:Int) (named ns (aa ds (i:Int)).f0 || named ss (aa ds (i:Int)).f0) ds ns ss nx:=by
  intro i hi out;obtain⟨K,e⟩:=wa ns h1 (aa ds (i:Int)).f0;obtain⟨K2,e2⟩:=wa ss h2 (aa ds (i:Int)).f0;dsimp only at e e2;refine⟨K+K2,fun k hk=>?_⟩;simp only[jg.l0];rw[if_pos (by omega),if_pos (by omega),e k (by omega),Option.bind_some];cases named ns (aa ds (i:Int)).f0
  ·rw[if_neg (by decide),e2 k (by omega),Option.bind_some,Bool.false_or]
  ·rw[if_pos rfl,Bool.true_or]
 refine Ev.congr (fun k=>?_) (xV (fun k out i=>jg.l0 k out (i:Int) ds ns ss nx) ds.length _ _ (fun out=>(out,ns,ss,nx)) (fun i out r hi ho hp h=>?_) (fun i out r hi ho hp h=>?_) (fun out ho=>?_))
 ·simp only[jg.f];rfl
 ·refine Ev.round (body i hi out) (Ev.step (fun k=>?_) h);simp only[jg.j1,hp];rw[if_pos trivial,if_pos (by omega),if_pos (by omega),if_pos (by omega),ca (n:=ds.length) hi (by omega)]
 ·refine Ev.round (body i hi out) (Ev.step (fun k=>?_) h);simp only[jg.j1,hp];rw[if_neg (by decide),ca (n:=ds.length) hi (by omega)]
 ·refine Ev.ends (fun k=>?_);simp only[jg.l0];rw[if_neg (by omega)]
theorem Rz (d0:List ak) (n0 s0:List ai) (x0:Int) (ds:List ak) (ns ss:List ai) (nx:Int) (h0:Small d0 n0 s0) (h:Small ds ns ss):Ev (fun k=>o0.f k d0 n0 s0 x0 ds ns ss nx) (kj d0 n0 s0 x0 ds ns ss nx):=by
 unfold o0.f kj;refine Ev.bind' (Qp ds ns ss nx h.h0 h.h1 h.h2) ?_;dsimp only;refine Ev.bind' (h.kept.spec nx) ?_;cases cN (kept ds ns ss) ns ss nx
 ·simp only[Bool.false_eq_true,if_false];exact Ev.bind' (h0.FQ x0) (Ev.now _)
 ·simp only[if_true];exact Ev.now _
def nameAt (l:List ai) (nm:ByteArray):Int:=cm (fun i=>decide ((aq l (i:Int)).f0.toList=nm.toList)) (fun i=>(i:Int)) (-1) 0 l.length
def ie (l:List ai) (nm:ByteArray):Int:=cm (fun i=>decide ((aq l (i:Int)).f0.toList=nm.toList)) (fun i=>(aq l (i:Int)).f1) 0 0 l.length
theorem GG (ds:List ak) (l c:List ai) (n:Int) (nm:ByteArray) (h:l.length≤1048576):Ev (fun k=>lF.f k ds l c n nm) (ie l nm):=by
 refine Ev.congr (fun k=>?_) (jN (fun i k=>lF.l0 k nm l (l.length:Int) (i:Int)) l.length _ _ _ (fun i r hi hp h=>?_) (fun i hi hp=>?_) ?_)
 ·simp only[lF.f];rfl
 ·refine Ev.step (fun k=>?_) h;simp only[lF.l0];rw[if_pos (by omega),if_pos (by omega),if_pos (by omega),if_neg (by simpa using hp),ca (n:=l.length) hi (by omega)]
 ·refine Ev.ends (fun k=>?_);simp only[lF.l0];rw[if_pos (by omega),if_pos (by omega),if_pos (by omega),if_pos (by simpa using hp)]
 ·refine Ev.ends (fun k=>?_);simp only[lF.l0];rw[if_neg (by omega)]
theorem IS (l:List ai) (nm:ByteArray) (h:l.length≤1048576):Ev (fun k=>lG.f k l nm) (nameAt l nm):=by
 refine Ev.congr (fun k=>?_) (jN (fun i k=>lG.l0 k l nm (i:Int)) l.length _ _ _ (fun i r hi hp h=>?_) (fun i hi hp=>?_) ?_)
 ·simp only[lG.f];rfl
 ·refine Ev.step (fun k=>?_) h;simp only[lG.l0];rw[if_pos (by omega),if_pos (by omega),if_neg (by simpa using hp),ca (n:=l.length) hi (by omega)]
 ·refine Ev.ends (fun k=>?_);simp only[lG.l0];rw[if_pos (by omega),if_pos (by omega),if_pos (by simpa using hp)]
 ·refine Ev.ends (fun k=>?_);simp only[lG.l0];rw[if_neg (by omega)]
theorem AE {ds:List ak} {ns ss:List ai} {nx:Int} (h:cN ds ns ss nx=true) (nm:ByteArray) :
 (nameAt ns nm = -1∧ie ns nm=0)∨(∃j m,j<ns.length∧nameAt ns nm=(j:Int)∧ie ns nm=(aq ns (j:Int)).f1∧ie ns nm≠0∧m<ds.length∧jJ ds (aq ns (j:Int)).f1=(m:Int)∧eB nm=true):=by
 obtain⟨hi,h1,_⟩:=BP h;unfold nameAt ie
 rcases xX (fun i=>decide ((aq ns (i:Int)).f0.toList=nm.toList)) ns.length 0 with ⟨j,_,j2,j3,j4⟩|⟨_,j2⟩
 ·right;obtain⟨e1,e2⟩:=Px h1 j (by omega);obtain⟨m,m1,m2,m3⟩:=NA e2;have hp:=(Nz (uy hi m m1)).1;refine⟨j,m,by omega,j4 _ _,j4 _ _,?_,m1,m2,?_⟩
  ·rw[j4,←m3];omega
  ·rw[←RL (of_decide_eq_true j3)];exact e1
 ·left;exact⟨j2 _ _,j2 _ _⟩
def jW (ok:Bool) (ns:List ai) (nm:ByteArray):Int:=if (ok&&eB nm)=true then (if nameAt ns nm<0 then 2 else 0) else 1
theorem Qt (ds:List ak) (ns ss:List ai) (nx:Int) (nm:ByteArray) (hn:nm.size≤9223372036854775807) (h:Small ds ns ss):Ev (fun k=>lH.f k ds ns ss nx nm) (jW (cN ds ns ss nx) ns nm):=by
 obtain⟨K1,e1⟩:=h.spec nx;obtain⟨K2,e2⟩:=EI nm hn;obtain⟨K3,e3⟩:=IS ns nm h.h1;dsimp only at e1 e2 e3;refine⟨K1+K2+K3+1,fun k hk=>?_⟩;obtain⟨q,rfl⟩:∃q,k=q+1:=⟨k-1,by omega⟩;simp only[lH.f];rw[e1 _ (by omega),Option.bind_some];unfold jW;cases cN ds ns ss nx
 ·rw[if_neg (by decide),Bool.false_and,if_neg (by decide)];simp only[lH.j0];rfl
 rw[if_pos rfl,e2 _ (by omega),Option.bind_some,Bool.true_and];simp only[lH.j0];cases eB nm
 ·rfl
 ·rw[if_neg (by decide),if_pos rfl,e3 _ (by omega),Option.bind_some];split<;>rfl
abbrev Fo:=Nat→List ak→List ai→List ai→Int→Option lp
def uA (ds:List ak) (ns ss:List ai) (nx:Int) (names:List ByteArray) (there:Bool) (R:lp):lp:=
 if (there&&ie ns (mc ByteArray.empty names 0) == 0)=true then (ds,ns,ss,nx,2) else if R.2.2.2.2=0 then kj ds ns ss nx R.1 R.2.1 R.2.2.1 R.2.2.2.1 else (ds,ns,ss,nx,R.2.2.2.2)
def uo (ds:List ak) (ns ss:List ai) (nx:Int) (names:List ByteArray) (there:Bool) (R:lp):lp:=
 if cN ds ns ss nx=true then (if names.all eB=true then uA ds ns ss nx names there R else (ds,ns,ss,nx,1)) else (ds,ns,ss,nx,1)
theorem GI (mdo:Fo) (ds:List ak) (ns ss:List ai) (nx:Int) (R:lp) (h:Small ds ns ss) (hm:Ev (fun k=>mdo k ds ns ss nx) R∧(R.2.2.2.2=0→Small R.1 R.2.1 R.2.2.1)) :
 Ev (fun k=>cC.j1 mdo k false ds ns ss nx ds ns ss nx) (if R.2.2.2.2=0 then kj ds ns ss nx R.1 R.2.1 R.2.2.1 R.2.2.2.1 else (ds,ns,ss,nx,R.2.2.2.2)):=by
 refine Ev.step (f:=fun k=>(mdo k ds ns ss nx).bind fun t=>(if t.2.2.2.2=0 then (cC.l1 mdo k [] t.1 (t.1.length:Int) 0 ds ns ss nx t.1 t.2.1 t.2.2.1 t.2.2.2.1) else ((iA.f k ds ns ss nx).bind fun b=>(some (b.1,b.2.1,b.2.2.1,b.2.2.2,t.2.2.2.2))))) (fun k=>?_) (Ev.bind' hm.1 ?_)
 ·simp only[cC.j1,Bool.false_eq_true,if_false]
 ·by_cases hc:R.2.2.2.2=0
  ·simp only[hc,if_true];exact Qj mdo ds ns ss nx R.1 R.2.1 R.2.2.1 R.2.2.2.1 R.1 h (hm.2 hc)
  ·simp only[hc,if_false];exact Ev.bind' (h.Ao nx) (Ev.now _)
theorem Qh (mdo:Fo) (ds:List ak) (ns ss:List ai) (nx:Int) (names:List ByteArray) (there:Bool) (R:lp) (h:Small ds ns ss) (hl:names.length≤2) (hz:∀nm ∈ names,nm.size≤9223372036854775807) (hth:there=true→0<names.length)
 (hm:cN ds ns ss nx=true→names.all eB=true→(there=true→ie ns (mc ByteArray.empty names 0)≠0)→Ev (fun k=>mdo k ds ns ss nx) R∧(R.2.2.2.2=0→Small R.1 R.2.1 R.2.2.1)):Ev (fun k=>cC.f mdo k ds ns ss nx names there) (uo ds ns ss nx names there R):=by
 unfold cC.f uo;refine Ev.bind' (h.Ao nx) ?_;refine Ev.bind' (h.impl nx) ?_;cases hok:cN ds ns ss nx
 ·simp only[Bool.false_eq_true,if_false];exact Ev.now _
 simp only[if_true]
 have key:∀(d i:Nat),i+d=names.length→((names.drop i).all eB=true→names.all eB=true)→Ev (fun k=>cC.l0 mdo k names there names (names.length:Int) (i:Int) ds ns ss nx ds ns ss nx) (if (names.drop i).all eB=true then uA ds ns ss nx names there R else (ds,ns,ss,nx,1)):=by
  intro d
  induction d with
  |zero=>
   intro i hi hall;have e:names.drop i=[]:=List.drop_eq_nil_of_le (by omega);rw[e]at hall ⊢;have hall:=hall rfl;rw[if_pos (show ([]:List ByteArray).all eB=true from rfl)];unfold uA;cases there with
   |false=>
    rw[Bool.false_and,if_neg (by decide)];refine Ev.step (f:=fun k=>cC.j1 mdo k false ds ns ss nx ds ns ss nx) (fun k=>?_) (GI mdo ds ns ss nx R h (hm hok hall (fun h=>by simp at h)));simp only[cC.l0];rw[if_neg (by omega),if_neg (by decide)]
   |true=>
    rw[Bool.true_and];obtain⟨K,e1⟩:=GG ds ns ss nx (mc ByteArray.empty names 0) h.h1;have hpos:=hth rfl;dsimp only at e1;refine Ev.round (f:=fun k=>cC.j1 mdo k (ie ns (mc ByteArray.empty names 0) == 0) ds ns ss nx ds ns ss nx) ⟨K,fun k hk=>?_⟩ ?_
    ·simp only[cC.l0];rw[if_neg (by omega),if_pos trivial,if_pos (by omega),e1 k hk,Option.bind_some]
    ·by_cases hc:ie ns (mc ByteArray.empty names 0)=0
     ·rw[hc];refine Ev.ends (fun k=>?_);simp only[cC.j1];rfl
     ·rw[beq_eq_false_iff_ne.2 hc,if_neg (by decide)];exact GI mdo ds ns ss nx R h (hm hok hall (fun _=>hc))
  |succ d ih=>
   intro i hi hall;have hil:i<names.length:=by omega
   have ed:names.drop i=names[i]::names.drop (i+1):=List.drop_eq_getElem_cons hil
   have er:mc ByteArray.empty names (i:Int)=names[i]:=by
    show names.getD i ByteArray.empty=_;rw[List.getD_eq_getElem?_getD,List.getElem?_eq_getElem hil];rfl
   obtain⟨K1,e1⟩:=GJ names[i] (hz _ (List.getElem_mem hil));dsimp only at e1;rw[ed,List.all_cons]at hall ⊢;cases hno:eB names[i] with
   |false=>
    rw[Bool.false_and,if_neg (by decide)];refine Ev.round (f:=fun k=>some (ds,ns,ss,nx,1)) ⟨K1,fun k hk=>?_⟩ (Ev.now _);simp only[cC.l0];rw[if_pos (by omega),if_pos (by omega),if_pos (by omega),er,e1 k hk,Option.bind_some,hno,if_neg (by decide)]
   |true=>
    rw[hno,Bool.true_and]at hall;rw[Bool.true_and];refine Ev.round (f:=fun k=>cC.l0 mdo k names there names (names.length:Int) ((i+1:Nat):Int) ds ns ss nx ds ns ss nx) ⟨K1,fun k hk=>?_⟩ (ih (i+1) (by omega) hall);simp only[cC.l0];rw[if_pos (by omega),if_pos (by omega),if_pos (by omega),er,e1 k hk,Option.bind_some,hno,if_pos rfl,ca (n:=names.length) hil (by omega)]
 have:=key names.length 0 (by omega) (fun h=>h);rw[List.drop_zero]at this;exact this
theorem Xd (ds:List ak) (ns ss:List ai) (nx:Int) (nm:ByteArray) (R:lp):uo ds ns ss nx [nm] true R=if jW (cN ds ns ss nx) ns nm=0 then (if R.2.2.2.2=0 then kj ds ns ss nx R.1 R.2.1 R.2.2.1 R.2.2.2.1 else (ds,ns,ss,nx,R.2.2.2.2)) else (ds,ns,ss,nx,jW (cN ds ns ss nx) ns nm):=by
 unfold uo uA jW;have e0:mc ByteArray.empty [nm] 0=nm:=rfl;rw[e0,List.all_cons,List.all_nil,Bool.and_true,Bool.true_and];cases hok:cN ds ns ss nx
 ·simp
 ·rw[Bool.true_and,if_pos rfl];cases hno:eB nm
  ·simp
  ·rw[if_pos rfl,if_pos rfl]
   rcases AE hok nm with ⟨c1,c2⟩|⟨j,m,c1,c2,c3,c4,_⟩
   ·rw[c2,if_pos (by decide),if_pos (show nameAt ns nm<0 by omega),if_neg (by decide)]
   ·rw[beq_eq_false_iff_ne.2 c4,if_neg (by decide),if_neg (show ¬nameAt ns nm<0 by omega),if_pos rfl]
theorem Ph:∀a b:List UInt8,(Op.bytesLess a b || a == b) = !(Op.bytesLess b a)
 |[],[]=>rfl
 |[],_::_=>rfl
 |_::_,[]=>rfl
 |a::x,b::y=>by
  have ih:=Ph x y;simp only[Op.bytesLess];by_cases h1:a<b
  ·have h2:¬b<a:=fun h=>by simp only[UInt8.lt_iff_toNat_lt]at h1 h;omega
   have h3:¬(b=a):=fun h=>by subst h;simp only[UInt8.lt_iff_toNat_lt]at h1;omega
   simp[h1,h2,h3]
  ·by_cases h2:b<a
   ·have h3:¬(a=b):=fun h=>by subst h;simp only[UInt8.lt_iff_toNat_lt]at h2;omega
    simp[h1,h2,h3]
   ·have h3:a=b:=by
     apply UInt8.toNat_inj.1;simp only[UInt8.lt_iff_toNat_lt]at h1 h2;omega
    subst h3;simpa using ih
theorem WT (a:List UInt8):Op.bytesLess a a=false:=by
 have h:=Ph a a;simp at h;cases hq:Op.bytesLess a a with
 |false=>rfl
 |true=>rw[hq]at h;simp at h
theorem WU {a b:List UInt8} (h:Op.bytesLess a b=true):a≠b:=fun e=>by subst e;rw[WT]at h;simp at h
theorem WV {a b:List UInt8} (h:Op.bytesLess a b=false) (hne:a≠b):Op.bytesLess b a=true:=by
 have t:=Ph a b;rw[h,beq_eq_false_iff_ne.2 hne]at t;simpa using t.symm
theorem Ij:∀ {a b c:List UInt8},Op.bytesLess a b=true→Op.bytesLess b c=true→Op.bytesLess a c=true
 |_,_,[],_,h2=>by rename_i a b _;cases b<;>simp[Op.bytesLess]at h2
 |[],_,_::_,_,_=>rfl
 |a::x,[],c::z,h1,_=>by simp[Op.bytesLess]at h1
 |a::x,b::y,c::z,h1,h2=>by
  have ih:=@Ij x y z;simp only[Op.bytesLess]at h1 h2 ⊢;by_cases h3:a<b
  ·by_cases h4:b<c
   ·have:a<c:=by simp only[UInt8.lt_iff_toNat_lt] at *;omega
    simp[this]
   ·by_cases h5:b=c
    ·subst h5;simp[h3]
    ·simp[h4,h5]at h2
  ·by_cases h5:a=b
   ·subst h5;by_cases h4:a<c
    ·simp[h4]
    ·by_cases h6:a=c
     ·subst h6;simp[h3]at h1 h2 ⊢;exact ih h1 h2
     ·simp[h4,h6]at h2
   ·simp[h3,h5]at h1
abbrev yy (a b:ai):Prop:=cw.lt a b=true
theorem akD (xs:List ai):(cw.sort xs).Perm xs∧(cw.sort xs).Pairwise (fun a b=>cw.lt b a=false):=by
 unfold cw.sort;split
 ·obtain⟨⟨hsz,_,hp⟩,hs⟩:=Go.Sort.pdq_sorts cw.lt cw.swo xs.toArray 0 xs.toArray.size (Go.Lib.bitLen xs.toArray.size) true true (Nat.zero_le _) (Nat.le_refl _) (Or.inl rfl);generalize Go.Sort.pdq cw.lt xs.toArray 0 xs.toArray.size (Go.Lib.bitLen xs.toArray.size) true true=d' at hsz hp hs
  have e1:d'.extract 0 xs.toArray.size=d':=by rw[←hsz];exact Array.extract_size
  rw[e1,Array.extract_size]at hp;refine⟨hp,?_⟩;rw[List.pairwise_iff_getElem];intro i j hi hj hij;have hi':i<d'.size:=by simpa using hi
  have hj':j<d'.size:=by simpa using hj
  have:=hs i j (Nat.zero_le _) hij (by omega);rw[getElem!_pos d' j hj',getElem!_pos d' i hi']at this;simpa using this
 ·rename_i h;refine⟨List.Perm.refl _,?_⟩
  match xs,h with
  |[],_=>exact List.Pairwise.nil
  |[a],_=>exact List.pairwise_singleton _ _
  |a::b::r,h=>exact absurd (by simp) h
def oF (e:ai):List ai→List ai
 |[]=>[e]
 |x::r=>if cw.lt x e=true then x::oF e r else e::x::r
theorem KO (e:ai):∀l,(oF e l).Perm (l++[e])
 |[]=>List.Perm.refl _
 |x::r=>by
  unfold oF;split
  ·exact(KO e r).cons x
  ·exact(List.perm_append_singleton e (x::r)).symm
theorem aat {e y:ai} {l:List ai} (h:y ∈ oF e l):y=e∨y ∈ l:=by
 have:=(KO e l).mem_iff.1 h;rw[List.mem_append,List.mem_singleton]at this;exact this.symm
theorem akb (e:ai) (l:List ai):(oF e l).length=l.length+1:=by rw[(KO e l).length_eq];simp
theorem aau (e:ai):∀l,l.Pairwise yy→(∀x ∈ l,x.f0.toList≠e.f0.toList)→(oF e l).Pairwise yy
 |[],_,_=>List.pairwise_singleton _ _
 |x::r,h,hne=>by
  obtain⟨h1,h2⟩:=List.pairwise_cons.1 h;unfold oF;split
  ·rename_i hx;refine List.pairwise_cons.2 ⟨fun y hy=>?_,aau e r h2 (fun y hy=>hne y (List.mem_cons_of_mem _ hy))⟩
   rcases aat hy with rfl|hy
   ·exact hx
   ·exact h1 y hy
  ·rename_i hx;have hex:cw.lt e x=true:=WV (show Op.bytesLess x.f0.toList e.f0.toList=false from Bool.eq_false_iff.2 hx) (hne x List.mem_cons_self);refine List.pairwise_cons.2 ⟨fun y hy=>?_,h⟩
   rcases List.mem_cons.1 hy with rfl|hy
   ·exact hex
   ·exact Ij hex (h1 y hy)
theorem akC (l:List ai) (e:ai) (h:l.Pairwise yy) (hne:∀x ∈ l,x.f0.toList≠e.f0.toList):cw.sort (l++[e])=oF e l:=by
 obtain⟨hp,hs⟩:=akD (l++[e]);have hi:=aau e l h hne;have Tv:(oF e l).Pairwise (fun a b=>a.f0.toList≠b.f0.toList):=hi.imp (fun h=>WU h);have hpp:=hp.trans (KO e l).symm;have ajI:(cw.sort (l++[e])).Pairwise (fun a b=>a.f0.toList≠b.f0.toList):=(hpp.pairwise_iff (fun h=>h.symm)).2 Tv;have hs2:(cw.sort (l++[e])).Pairwise yy:=(hs.and ajI).imp (fun h=>WV h.1 (fun e=>h.2 e.symm));refine List.Perm.eq_of_pairwise (le:=yy) (fun a b _ _ h1 h2=>?_) hs2 hi hpp;have:=Ij h1 h2;rw[WT]at this;exact absurd this (by decide)
theorem Xu {ds:List ak} {l:List ai} (h:dX ds l=true) (i:Nat) (hi:i<l.length) (h0:0<i):Op.bytesLess (aq l ((i-1:Nat):Int)).f0.toList (aq l (i:Int)).f0.toList=true:=by
 unfold dX at h;rw[nJ,Bool.and_eq_true]at h;have hb:=xW _ _ (by simpa using h.1) i (by omega) (by omega);unfold rV at hb;rw[Bool.or_eq_false_iff,Bool.or_eq_false_iff]at hb;have h2:=hb.1.2;simpa[h0] using h2
theorem ab5 {ds:List ak} {l:List ai} (h:dX ds l=true):l.Pairwise yy:=by
 have key:∀(d i:Nat),i+d+1<l.length→Op.bytesLess (aq l (i:Int)).f0.toList (aq l ((i+d+1:Nat):Int)).f0.toList=true:=by
  intro d
  induction d with
  |zero=>intro i hi;exact Xu h (i+1) hi (by omega)
  |succ d ih=>intro i hi;exact Ij (ih i (by omega)) (Xu h (i+(d+1)+1) hi (by omega))
 rw[List.pairwise_iff_getElem];intro i j hi hj hij;have:=key (j-i-1) i (by omega);rw[show i+(j-i-1)+1=j from by omega]at this;have e1:aq l (i:Int)=l[i]:=by unfold aq;simp[List.getD_eq_getElem?_getD,hi]
 have e2:aq l (j:Int)=l[j]:=by unfold aq;simp[List.getD_eq_getElem?_getD,hj]
 rw[e1,e2]at this;exact this
theorem akk {l:List ai} {nm:ByteArray} (h:nameAt l nm<0):∀x ∈ l,x.f0.toList≠nm.toList:=by
 unfold nameAt at h
 rcases xX (fun i=>decide ((aq l (i:Int)).f0.toList=nm.toList)) l.length 0 with ⟨j,_,_,_,j4⟩|⟨j1,_⟩
 ·rw[j4]at h;omega
 ·intro x hx;obtain⟨i,hi,rfl⟩:=List.getElem_of_mem hx;have:=j1 i (by omega) (by omega);have e1:aq l (i:Int)=l[i]:=by unfold aq;simp[List.getD_eq_getElem?_getD,hi]
  rw[e1]at this;exact of_decide_eq_false this
def ua (ns:List ai) (nm:ByteArray):List ai:=((List.range ns.length).filter (fun (i:Nat)=>!decide ((aq ns (i:Int)).f0.toList=nm.toList))).map (fun (i:Nat)=>aq ns (i:Int))
theorem RW (ns:List ai) (nm:ByteArray):(ua ns nm).length≤ns.length:=by
 unfold ua;rw[List.length_map];exact Nat.le_trans (List.length_filter_le _ _) (by simp)
theorem aln {ns:List ai} {nm:ByteArray} {x:ai} (h:x ∈ ua ns nm):x ∈ ns:=by
 obtain⟨i,hi,rfl⟩:=List.mem_map.1 h;exact zk (by simpa using (List.mem_filter.1 hi).1)
theorem aHU (ns:List ai) (nm:ByteArray) (h:ns.length≤1048576):Ev (fun k=>sD.f k ns nm) (ua ns nm):=by
 refine Ev.congr (fun k=>?_) (xV (fun k out i=>sD.l0 k ns nm out (i:Int)) ns.length _ _ (fun out=>out) (fun i out r hi ho hp h=>?_) (fun i out r hi ho hp h=>?_) (fun out ho=>?_))
 ·simp only[sD.f];rfl
 ·refine Ev.step (fun k=>?_) h;simp only[sD.l0];rw[if_pos (by omega),if_pos (by omega),if_neg (by simpa using hp),if_pos (by omega),ca (n:=ns.length) hi (by omega)]
 ·refine Ev.step (fun k=>?_) h;simp only[sD.l0];rw[if_pos (by omega),if_pos (by omega),if_pos (by simpa using hp),ca (n:=ns.length) hi (by omega)]
 ·refine Ev.ends (fun k=>?_);simp only[sD.l0];rw[if_neg (by omega)]
theorem att (ns:List ai) (nm:ByteArray) (h:ns.length≤1048576):Ev (fun k=>rU.f k ns nm) (ua ns nm):=by
 refine Ev.congr (fun k=>?_) (xV (fun k out i=>rU.l0 k nm out ns (ns.length:Int) (i:Int)) ns.length _ _ (fun out=>out) (fun i out r hi ho hp h=>?_) (fun i out r hi ho hp h=>?_) (fun out ho=>?_))
 ·simp only[rU.f];rfl
 ·refine Ev.step (fun k=>?_) h;simp only[rU.l0];rw[if_pos (by omega),if_pos (by omega),if_pos (by omega),if_neg (by simpa using hp),if_pos (by omega),ca (n:=ns.length) hi (by omega)]
 ·refine Ev.step (fun k=>?_) h;simp only[rU.l0];rw[if_pos (by omega),if_pos (by omega),if_pos (by omega),if_pos (by simpa using hp),ca (n:=ns.length) hi (by omega)]
 ·refine Ev.ends (fun k=>?_);simp only[rU.l0];rw[if_neg (by omega)]
theorem Small.ua {ds:List ak} {ns ss:List ai} (h:Small ds ns ss) (nm:ByteArray):Small ds (ua ns nm) ss:=⟨h.h0,h.hd,Nat.le_trans (RW ns nm) h.h1,h.h2,fun e he=>h.z1 e (aln he),h.z2⟩
def uV (e x:ai):Bool:=!decide (x.f0.toList=e.f0.toList)
def Ug (e:ai):List ai→List ai
 |[]=>[e]
 |x::r=>if cw.lt x e=true then x::Ug e r else e::(x::r).filter (uV e)
theorem aHi (e:ai) (l:List ai) (h:∀y ∈ l,cw.lt y e=false):oF e l=e::l:=by
 cases l with
 |nil=>rfl
 |cons x r=>
  unfold oF;rw[if_neg (by rw[h x List.mem_cons_self];decide)]
theorem auA (e:ai):∀l,l.Pairwise yy→Ug e l=oF e (l.filter (uV e))
 |[],_=>rfl
 |x::r,h=>by
  obtain⟨h1,h2⟩:=List.pairwise_cons.1 h;unfold Ug;by_cases hx:cw.lt x e=true
  ·rw[if_pos hx,auA e r h2,List.filter_cons,if_pos (show uV e x=true by unfold uV;simpa using WU hx)]
   conv=>rhs;unfold oF
   rw[if_pos hx]
  ·rw[if_neg hx,aHi];intro y hy
   rcases List.mem_cons.1 (List.mem_filter.1 hy).1 with rfl|hr
   ·exact Bool.eq_false_iff.2 hx
   ·refine Bool.eq_false_iff.2 (fun hye=>hx ?_);exact Ij (h1 y hr) hye
theorem aHt (l:List ai) (nm:ByteArray) (n:Int) (hl:l.length≤1048576):∀(d i:Nat) (out:List ai) (b:Bool),i+d=l.length→out.length≤i+(if b=true then 1 else 0) →
 Ev (fun k=>iE.l0 k l out b (i:Int) nm n) (out++(if b=true then (l.drop i).filter (uV ⟨nm,n⟩) else Ug (⟨nm,n⟩:ai) (l.drop i))):=by
 intro d
 induction d with
 |zero=>
  intro i out b hi ho;rw[List.drop_eq_nil_of_le (by omega)];refine Ev.ends (fun k=>?_);simp only[iE.l0];rw[if_neg (by omega)];cases b
  ·rw[if_neg (by decide),if_pos (by simp at ho;omega),if_neg (by decide)];rfl
  ·simp
 |succ d ih=>
  intro i out b hi ho;have hil:i<l.length:=by omega
  have ed:l.drop i=l[i]::l.drop (i+1):=List.drop_eq_getElem_cons hil;have er:aq l (i:Int)=l[i]:=by unfold aq;simp[List.getD_eq_getElem?_getD,hil]
  have Gq:∀(k:Nat) (o:List ai) (c:Bool),o.length≤i+2→iE.j2 (k+1) l o c (i:Int) nm n=iE.l0 k l (o++[l[i]].filter (uV ⟨nm,n⟩)) c ((i+1:Nat):Int) nm n:=by
   intro k o c aQ;simp only[iE.j2];rw[if_pos (by omega),if_pos (by omega),er,ca (n:=l.length) hil (by omega)];by_cases hn:l[i].f0.toList=nm.toList
   ·rw[if_pos hn,List.filter_cons,if_neg (show ¬uV ⟨nm,n⟩ l[i]=true by unfold uV;simpa using hn)];simp
   ·rw[if_neg hn,if_pos (by omega),List.filter_cons,if_pos (show uV ⟨nm,n⟩ l[i]=true by unfold uV;simpa using hn)];simp
  have hf:∀(o:List ai),(o++[l[i]].filter (uV ⟨nm,n⟩)).length≤o.length+1:=by
   intro o;rw[List.length_append];have:=List.length_filter_le (uV ⟨nm,n⟩) [l[i]];simp at this ⊢;omega
  have ef:(l[i]::l.drop (i+1)).filter (uV ⟨nm,n⟩)=[l[i]].filter (uV ⟨nm,n⟩)++(l.drop (i+1)).filter (uV ⟨nm,n⟩):=by rw[←List.filter_append];rfl
  cases b
  ·cases hc:cw.lt l[i] (⟨nm,n⟩:ai)
   ·
     obtain⟨K,h1⟩:=ih (i+1) (out++[(⟨nm,n⟩:ai)]++[l[i]].filter (uV ⟨nm,n⟩)) true (by omega) (by have:=hf (out++[(⟨nm,n⟩:ai)]);simp at ho this ⊢;omega);refine⟨K+3,fun k hk=>?_⟩;obtain⟨q,rfl⟩:∃q,k=q+3:=⟨k-3,by omega⟩;have pK:Op.bytesLess l[i].f0.toList nm.toList=false:=hc;have h2:=h1 q (by omega);simp only[iE.l0,iE.j1];rw[if_pos (by omega),if_neg (by decide),if_pos (by omega),er,pK,if_pos (by decide),if_pos (by simp at ho;omega),Gq q _ _ (by simp at ho ⊢;omega)];refine h2.trans ?_;rw[ed,if_pos rfl,if_neg (by decide)];unfold Ug;rw[if_neg (by rw[hc];decide),ef];simp
   ·obtain⟨K,h1⟩:=ih (i+1) (out++[l[i]]) false (by omega) (by simp at ho ⊢;omega);refine⟨K+3,fun k hk=>?_⟩;obtain⟨q,rfl⟩:∃q,k=q+3:=⟨k-3,by omega⟩;have pK:Op.bytesLess l[i].f0.toList nm.toList=true:=hc;have h2:=h1 q (by omega);have e1:[l[i]].filter (uV ⟨nm,n⟩)=[l[i]]:=by rw[List.filter_cons,if_pos (show uV ⟨nm,n⟩ l[i]=true by unfold uV;simpa using WU pK)];rfl
    simp only[iE.l0,iE.j1];rw[if_pos (by omega),if_neg (by decide),if_pos (by omega),er,pK,if_neg (by decide),Gq q _ _ (by simp at ho ⊢;omega),e1];refine h2.trans ?_;rw[ed,if_neg (by decide),if_neg (by decide)]
    conv=>rhs;unfold Ug
    rw[if_pos hc];simp
  ·obtain⟨K,h1⟩:=ih (i+1) (out++[l[i]].filter (uV ⟨nm,n⟩)) true (by omega) (by have:=hf out;simp at ho this ⊢;omega);refine⟨K+3,fun k hk=>?_⟩;obtain⟨q,rfl⟩:∃q,k=q+3:=⟨k-3,by omega⟩;have h2:=h1 q (by omega);simp only[iE.l0,iE.j1];rw[if_pos (by omega),if_pos trivial,if_neg (by decide),Gq q _ _ (by simp at ho ⊢;omega)];refine h2.trans ?_;rw[if_pos rfl,if_pos trivial,ed,ef,List.append_assoc]
theorem alm (ns:List ai) (nm:ByteArray):ua ns nm=ns.filter (fun x=>!decide (x.f0.toList=nm.toList)):=by
 have hm:ns=(List.range ns.length).map (fun (i:Nat)=>aq ns (i:Int)):=by
  refine List.ext_getElem (by simp) (fun i h1 h2=>?_);rw[List.getElem_map,List.getElem_range];unfold aq;simp[List.getD_eq_getElem?_getD,h1]
 conv=>rhs;rw[hm,List.filter_map]
 unfold ua;rfl
theorem aHs (l:List ai) (nm:ByteArray) (n:Int) (hl:l.length≤1048576) (hr:l.Pairwise yy):Ev (fun k=>iE.f k l nm n) (oF (⟨nm,n⟩:ai) (ua l nm)):=by
 refine Ev.congr (fun k=>?_) (show Ev _ _ from (by have:=aHt l nm n hl l.length 0 [] false (by omega) (by simp);rw[List.drop_zero,if_neg (by decide),auA _ _ hr]at this;rw[alm];exact this));simp only[iE.f];rfl
def renamed (ns:List ai) (a b:ByteArray):List ai:=oF (⟨b,ie ns a⟩:ai) (ua (ua ns a) b)
def KY (ds:List ak) (ns ss:List ai) (nx:Int) (a b:ByteArray):lp:=
 if jW (cN ds ns ss nx) ns a=1∨eB b=false then (ds,ns,ss,nx,1) else if jW (cN ds ns ss nx) ns a=0 then (if a.toList=b.toList then (ds,ns,ss,nx,0) else kj ds ns ss nx ds (renamed ns a b) ss nx) else (ds,ns,ss,nx,jW (cN ds ns ss nx) ns a)
theorem alo {ns:List ai} (nm:ByteArray) (h:ns.Pairwise yy):(ua ns nm).Pairwise yy:=by rw[alm];exact h.filter _
theorem aIF (ns:List ai) (nm:ByteArray):∀x ∈ ua ns nm,x.f0.toList≠nm.toList:=by
 intro x hx;rw[alm]at hx;simpa using (List.mem_filter.1 hx).2
theorem aHn {ds:List ak} {ns ss:List ai} {nx:Int} (h:nc ds ns ss nx=true):kept ds ns ss=ds:=by
 have hm:(List.range ds.length).map (fun (i:Nat)=>aa ds (i:Int))=ds:=by
  refine List.ext_getElem (by simp) (fun i h1 h2=>?_);rw[List.getElem_map,List.getElem_range];unfold aa;simp[List.getD_eq_getElem?_getD,h2]
 unfold kept;rw[List.filter_eq_self.2 (fun i hi=>?_),hm];have hb:=uy h i (by simpa using hi);unfold iB at hb;simp only[Bool.or_eq_false_iff,Bool.and_eq_false_iff,Bool.not_eq_false']at hb;rw[Bool.or_eq_true]
 rcases hb.2 with h1|h1
 ·exact .inl h1
 ·exact .inr h1
theorem aod {ds:List ak} {ns ss:List ai} {nx:Int} {a:ByteArray} (h:jW (cN ds ns ss nx) ns a=0):cN ds ns ss nx=true∧¬nameAt ns a<0:=by
 unfold jW at h;split at h
 ·rename_i h1;rw[Bool.and_eq_true]at h1;split at h
  ·exact absurd h (by decide)
  ·exact⟨h1.1,by assumption⟩
 ·exact absurd h (by decide)
theorem akU {ds:List ak} {ns ss:List ai} {nx:Int} {a b:ByteArray} (h:Small ds ns ss) (hok:cN ds ns ss nx=true) (hn:b.size≤9223372036854775807):Small ds (renamed ns a b) ss:=by
 obtain⟨p1,p2,p3⟩:=BP hok;have hl:=DC p2;refine⟨h.h0,h.hd,?_,h.h2,fun x hx=>?_,h.z2⟩
 ·unfold renamed;rw[akb];have h1:=RW (ua ns a) b;have h2:=RW ns a;omega
 ·rcases aat hx with h1|h1
  ·rw[h1];exact hn
  ·exact h.z1 x (aln (aln h1))
theorem aHT (ds:List ak) (ns ss:List ai) (nx:Int) (a b:ByteArray) (ha:a.size≤9223372036854775807) (hb:b.size≤9223372036854775807) (h:Small ds ns ss):Ev (fun k=>nM.f k ds ns ss nx a b) (KY ds ns ss nx a b):=by
 unfold nM.f KY;refine Ev.bind' (h.FQ nx) ?_;refine Ev.bind' (Qt ds ns ss nx a ha h) ?_;by_cases h1:jW (cN ds ns ss nx) ns a=1
 ·simp only[h1,if_true,true_or];exact Ev.ends (fun k=>by simp only[nM.j0,if_true])
 simp only[h1,if_false,false_or];refine Ev.bind' (EI b hb) ?_;cases hno:eB b
 ·simp only[Bool.not_false,if_true];exact Ev.ends (fun k=>by simp only[nM.j0,if_true])
 simp only[Bool.not_true,Bool.true_eq_false,if_false];by_cases h0:jW (cN ds ns ss nx) ns a=0
 ·simp only[h0,if_true];have hc:=aod h0;obtain⟨hok,hat⟩:=hc;refine Ev.step (f:=fun k=>nM.j1 k a b 0 (a.toList == b.toList) ds ns ss nx ds ns ss nx) (fun k=>by simp only[nM.j0,Bool.false_eq_true,if_false,if_true]) ?_;by_cases hab:a.toList=b.toList
  ·rw[if_pos hab];exact Ev.ends (fun k=>by simp only[nM.j1,beq_iff_eq.2 hab,if_true])
  ·rw[if_neg hab]
   rcases AE hok a with ⟨c1,c2⟩|⟨j,m,c1,c2,c3,c4,c5,c6,_⟩
   ·exact absurd c1 (by omega)
   have hr:=ab5 (BP hok).2.1;refine Ev.step (f:=fun k=>(lG.f k ns a).bind fun t=>(if 0≤t then (if t<(ns.length:Int) then ((sD.f k ns a).bind fun u=>((iE.f k u b ((aq ns t).f1)).bind fun v=>((o0.f k ds ns ss nx ds v ss nx).bind fun w=>(some (w.1,w.2.1,w.2.2.1,w.2.2.2.1,w.2.2.2.2))))) else (none)) else (none))) (fun k=>by simp only[nM.j1,beq_eq_false_iff_ne.2 hab,Bool.false_eq_true,if_false]) ?_;refine Ev.bind' (IS ns a h.h1) ?_;rw[c2];have q1:(0:Int)≤(j:Int):=by omega
   have q2:(j:Int)<(ns.length:Int):=by omega
   simp only[q1,q2,if_true];refine Ev.bind' (aHU ns a h.h1) ?_;refine Ev.bind' (aHs (ua ns a) b _ (Nat.le_trans (RW ns a) h.h1) (alo a hr)) ?_;rw[←c3];exact Ev.bind' (Rz ds ns ss nx ds _ ss nx h (akU h hok hb)) (Ev.now _)
 ·simp only[h0,if_false];refine Ev.step (f:=fun k=>nM.j1 k a b (jW (cN ds ns ss nx) ns a) true ds ns ss nx ds ns ss nx) (fun k=>by simp only[nM.j0,h0,Bool.false_eq_true,if_false]) ?_;exact Ev.ends (fun k=>by simp only[nM.j1,if_true])
theorem aG8 (ds:List ak) (ns ss:List ai) (nx:Int) (a b:ByteArray) (ha:a.size≤9223372036854775807) (hb:b.size≤9223372036854775807) (h:Small ds ns ss):Ev (fun k=>zh.f k ds ns ss nx a b) (KY ds ns ss nx a b):=by
 unfold zh.f;refine Ev.bind' (Qh (tc.f a b) ds ns ss nx [a,b] true (if a.toList=b.toList then (ds,ns,ss,nx,0) else (ds,renamed ns a b,ss,nx,0)) h (by simp) (fun x hx=>?_) (fun _=>by simp) (fun hok hno _=>?_)) ?_
 ·rcases List.mem_cons.1 hx with rfl|hx
  ·exact ha
  ·rw[List.mem_singleton.1 hx];exact hb
 ·unfold tc.f;by_cases hab:a.toList=b.toList
  ·simp only[hab,if_true];exact⟨Ev.now _,fun _=>h⟩
  ·simp only[hab,if_false];refine⟨?_,fun _=>akU h hok hb⟩;have hr:=ab5 (BP hok).2.1;refine Ev.bind' (GG ds ns ss nx a h.h1) ?_;refine Ev.bind' (att ns a h.h1) ?_;refine Ev.bind' (att (ua ns a) b (Nat.le_trans (RW ns a) h.h1)) ?_;have l1:=RW (ua ns a) b;have l2:=RW ns a;have g0:(ua (ua ns a) b).length<5864062014805:=by have:=h.h1;omega
   have ep:cw.f (ua (ua ns a) b) b (ie ns a)=some (renamed ns a b):=by
    unfold cw.f renamed;rw[if_pos g0,akC _ _ (alo b (alo a hr)) (aIF _ b)]
   simp only[ep,Option.bind_some];exact Ev.now _
 ·have e0:mc ByteArray.empty [a,b] 0=a:=rfl;unfold uo uA KY jW;rw[e0,List.all_cons,List.all_cons,List.all_nil,Bool.and_true,Bool.true_and];cases hok:cN ds ns ss nx
  ·simp only[Bool.false_and,Bool.false_eq_true,if_false,true_or,if_true];exact Ev.now _
  simp only[Bool.true_and,if_true];cases hno:eB a
  ·simp only[Bool.false_and,Bool.false_eq_true,if_false,true_or,if_true];exact Ev.now _
  simp only[Bool.true_and,if_true];cases hnb:eB b
  ·simp only[Bool.false_eq_true,if_false,or_true,if_true];exact Ev.now _
  simp only[if_true,Bool.true_eq_false,or_false]
  rcases AE hok a with ⟨c1,c2⟩|⟨j,m,c1,c2,c3,c4,c5,c6,_⟩
  ·have e2:nameAt ns a<0:=by omega
   simp only[e2,c2,if_true,BEq.rfl,show ¬((2:Int)=1) by decide,show ¬((2:Int)=0) by decide,if_false];exact Ev.now _
  ·have e2:¬nameAt ns a<0:=by omega
   simp only[e2,if_false,beq_eq_false_iff_ne.2 c4,Bool.false_eq_true,show ¬((0:Int)=1) by decide,if_true];by_cases hab:a.toList=b.toList
   ·simp only[hab,if_true]
    have hk:kj ds ns ss nx ds ns ss nx=(ds,ns,ss,nx,0):=by
     unfold kj;rw[aHn (BP hok).1,if_pos hok]
    rw[hk];exact Ev.now _
   ·simp only[hab,if_false,if_true];exact Ev.now _
theorem avH:iD.Pure:=by
 intro x a b hx ha hb;refine Comes.RM ?_;simp only[iD.f];refine Comes.ite (fun _=>Comes.ret true rfl) (fun _=>?_);refine Comes.ite (fun _=>Comes.ret true rfl) (fun _=>?_);refine Comes.bind (RC x ⟨hx.1.1,fun y hy=>(hx.1.2 y hy).2.1.1⟩ ⟨hx.2.1.1,fun y hy=>(hx.2.1.2 y hy).1⟩ ⟨hx.2.2.1.1,fun y hy=>(hx.2.2.1.2 y hy).1⟩ 1048576 (by omega) (by omega)) (fun t ht=>Comes.ite (fun _=>Comes.ret true rfl) (fun hn=>?_));obtain⟨b0,bd,b1,b2⟩:=ht.2 (by omega);have c0:(x.f0.map hZ).length≤1048576:=by simpa using b0
 have c1:(x.f1.map toEntry).length≤1048576:=by simpa using b1
 have c2:(x.f2.map toEntry).length≤1048576:=by simpa using b2
 have hmd:∀y ∈ x.f0.map hZ,y.f1.length≤4194304:=by
  intro y hy;obtain⟨z,hz,rfl⟩:=List.mem_map.1 hy;exact Nat.le_trans (bd z hz) (by decide)
 have yt:∀e ∈ x.f1.map toEntry,e.f0.size≤9223372036854775807:=by
  intro y hy;obtain⟨z,hz,rfl⟩:=List.mem_map.1 hy;exact(hx.2.1.2 z hz).1
 have xn:∀e ∈ x.f2.map toEntry,e.f0.size≤9223372036854775807:=by
  intro y hy;obtain⟨z,hz,rfl⟩:=List.mem_map.1 hy;exact(hx.2.2.1.2 z hz).1
 have hsm:Small (x.f0.map hZ) (x.f1.map toEntry) (x.f2.map toEntry):=⟨c0,hmd,c1,c2,yt,xn⟩
 have hr:Small (KY (x.f0.map hZ) (x.f1.map toEntry) (x.f2.map toEntry) x.f3 a b).1 (KY (x.f0.map hZ) (x.f1.map toEntry) (x.f2.map toEntry) x.f3 a b).2.1 (KY (x.f0.map hZ) (x.f1.map toEntry) (x.f2.map toEntry) x.f3 a b).2.2.1:=by
  unfold KY;split
  ·exact hsm
  ·split
   ·rename_i h1;split
    ·exact hsm
    ·exact Pw hsm (akU hsm (aod h1).1 (by omega))
   ·exact hsm
 obtain⟨K1,h1⟩:=RJ x b0 bd b1 b2;obtain⟨K2,h2⟩:=aHT (x.f0.map hZ) (x.f1.map toEntry) (x.f2.map toEntry) x.f3 a b (by omega) (by omega) hsm;obtain⟨K3,h3⟩:=aG8 (x.f0.map hZ) (x.f1.map toEntry) (x.f2.map toEntry) x.f3 a b (by omega) (by omega) hsm;generalize KY (x.f0.map hZ) (x.f1.map toEntry) (x.f2.map toEntry) x.f3 a b=r at hr h2 h3
 obtain⟨K4,h4⟩:=FX (x.f0.map hZ) (x.f1.map toEntry) (x.f2.map toEntry) x.f3 c0 hmd c1 c2;obtain⟨hm,K5,h5⟩:=GO (x.f0.map hZ) (x.f1.map toEntry) (x.f2.map toEntry) x.f3 c0 hmd c1 c2;obtain⟨K6,h6⟩:=FX r.1 r.2.1 r.2.2.1 r.2.2.2.1 hr.h0 hr.hd hr.h1 hr.h2;obtain⟨m,a',b',c',hm2,⟨K7,h7⟩,⟨K8,h8⟩⟩:=Qz r.1 r.2.1 r.2.2.1 r.2.2.2.1 hr.h0 hr.hd hr.h1 hr.h2;dsimp only at h1 h2 h3 h4 h5 h6 h7 h8;refine⟨true,rfl,K1+K2+K3+K4+K5+K6+K7+K8+3,fun k hk=>?_⟩;obtain⟨q,rfl⟩:∃q,k=q+3:=⟨k-3,by omega⟩;dsimp only;rw[h1 _ (by omega),Option.bind_some,h2 _ (by omega),Option.bind_some,Option.bind_some,h3 _ (by omega),Option.bind_some,h6 _ (by omega),Option.bind_some,if_pos rfl];simp only[iD.j0,iD.j1,iD.j2,bne_self_eq_false,Bool.false_eq_true,if_false];rw[h1 _ (by omega),Option.bind_some,h4 _ (by omega),Option.bind_some,if_pos rfl,h5 _ (by omega),Option.bind_some,if_neg (by simp only[];omega),h6 _ (by omega),Option.bind_some,if_pos rfl,h7 _ (by omega),Option.bind_some,h8 _ (by omega),Option.bind_some,if_neg (by omega),if_pos rfl,h1 _ (by omega),Option.bind_some,h3 _ (by omega),Option.bind_some,h6 _ (by omega),Option.bind_some,if_pos rfl];simp only[bne_self_eq_false,Bool.false_eq_true,if_false];rw[h8 _ (by omega),Option.bind_some,if_neg (by omega),if_pos rfl]
end Go.Proofs.Ytgpkdbnikcghgaa.MPureFnExactRename
