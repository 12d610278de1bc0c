/- FnExactSync: Sync of the program and of the reference answer the same, for all disks and names; what it answers is new memory. No condition. -/
import Derived.Test.YtgpkdbnikcghgaaMFnExactSyncDef
set_option linter.unusedVariables false
set_option linter.unusedSimpArgs false
namespace Go.Proofs.Ytgpkdbnikcghgaa.MPureFnExactSync
open Go.RowKit Go.Proofs.Ytgpkdbnikcghgaa.MD Go.Proofs.YtgpkdbnikcghgaaW.PrintWords Go.Proofs.YtgpkdbnikcghgaaW.PrintLast Go.Proofs.YtgpkdbnikcghgaaW.PrintMore
theorem wrap_id {i:Int} (h0:-9223372036854775808≤i) (h1:i≤9223372036854775807):wrap64 i=i:=by unfold wrap64;omega
theorem wrap_succ {i n:Nat} (h:i<n) (hn:n≤9223372036854775807):wrap64 ((i:Int)+1)=((i+1:Nat):Int):=by unfold wrap64;omega
theorem rd_nat (xs:List Int) (i:Nat):rd xs (i:Int)=xs.getD i 0:=by simp[rd]
theorem take_set_succ {α:Type} (l:List α) (i:Nat) (x:α) (h:i<l.length):(l.set i x).take (i+1)=l.take i++[x]:=by
 rw[List.take_succ_eq_append_getElem (by simpa using h),List.getElem_set_self,List.take_set_of_le (Nat.le_refl _)]
theorem take_succ_getD {α:Type} (l:List α) (i:Nat) (d:α) (h:i<l.length):l.take (i+1)=l.take i++[l.getD i d]:=by
 rw[List.take_succ_eq_append_getElem h,List.getD_eq_getElem?_getD,List.getElem?_eq_getElem h];rfl
theorem take_all {α:Type} {l m:List α} {n:Nat} (h:l.take n=m) (hl:l.length=n):l=m:=by
 rw[←h,←hl,List.take_length]
theorem wf_u8 {x:Int} (h:(Lit.int .u8 x).wf=true):0≤x∧x≤255:=by
 simp[Lit.wf,IntKind.min,IntKind.max,IntKind.signed,IntKind.bits]at h;omega
theorem wf_i64 {x:Int} (h:(Lit.int .i64 x).wf=true):-9223372036854775808≤x∧x≤9223372036854775807:=by
 simp[Lit.wf,IntKind.min,IntKind.max,IntKind.signed,IntKind.bits]at h;omega
theorem fill_loop {β:Type} (L:Nat→List β→Int→Option (List β)) (n:Nat) (g:Nat→β) (z:β)
 (hs:∀(i:Nat) (out:List β) (r:List β),i<n→out.length=n→Ev (fun k=>L k (out.set i (g i)) ((i+1:Nat):Int)) r→Ev (fun k=>L k out (i:Int)) r)
 (he:∀out:List β,out.length=n→Ev (fun k=>L k out (n:Int)) out):Ev (fun k=>L k (List.replicate n z) 0) ((List.range n).map g):=by
 have key:∀(d i:Nat) (out:List β),i+d=n→out.length=n→out.take i=(List.range i).map g→Ev (fun k=>L k out (i:Int)) ((List.range n).map g):=by
  intro d
  induction d with
  |zero=>
   intro i out hi hl ht;have:i=n:=by omega
   subst this;have e:=take_all ht hl;rw[←e];exact he out hl
  |succ d ih=>
   intro i out hi hl ht;refine hs i out _ (by omega) hl (ih (i+1) _ (by omega) (by simp[hl]) ?_);rw[take_set_succ _ _ _ (by omega),ht,List.range_succ,List.map_append];rfl
 exact key n 0 _ (by omega) (by simp) (by simp)
theorem mark_loop {β σ:Type} (L:Nat→List β→σ→Int→Option (σ × List β)) (n:Nat) (g:Nat→β) (st:Nat→σ)
 (hs:∀(i:Nat) (out:List β) (r:σ × List β),i<n→out.length=n→Ev (fun k=>L k (out.set i (g i)) (st (i+1)) ((i+1:Nat):Int)) r→Ev (fun k=>L k out (st i) (i:Int)) r)
 (he:∀out:List β,out.length=n→Ev (fun k=>L k out (st n) (n:Int)) (st n,out)) (l:List β) (hl:l.length=n):Ev (fun k=>L k l (st 0) 0) (st n,(List.range n).map g):=by
 have key:∀(d i:Nat) (out:List β),i+d=n→out.length=n→out.take i=(List.range i).map g→Ev (fun k=>L k out (st i) (i:Int)) (st n,(List.range n).map g):=by
  intro d
  induction d with
  |zero=>
   intro i out hi hl ht;have:i=n:=by omega
   subst this;have e:=take_all ht hl;rw[←e];exact he out hl
  |succ d ih=>
   intro i out hi hl ht;refine hs i out _ (by omega) hl (ih (i+1) _ (by omega) (by simp[hl]) ?_);rw[take_set_succ _ _ _ (by omega),ht,List.range_succ,List.map_append];rfl
 exact key n 0 _ (by omega) hl (by simp)
theorem scan_loop {ρ : Type} (g : Nat → Nat → Option ρ) (n : Nat) (r : ρ) (hs : ∀ i, i < n → Ev (g (i + 1)) r → Ev (g i) r) (he : Ev (g n) r) : Ev (g 0) r := by
  have key : ∀ (d i : Nat), i + d = n → Ev (g i) r := by
    intro d
    induction d with
    | zero => intro i hi; have : i = n := by omega
              subst this; exact he
    | succ d ih => intro i hi; exact hs i (by omega) (ih (i + 1) (by omega))
  exact key n 0 (by omega)
theorem range_map_get {α β:Type} (l:List α) (f:α→β) (d:α):(List.range l.length).map (fun i=>f (l.getD i d))=l.map f:=by
 apply List.ext_getElem?;intro i;rw[List.getElem?_map,List.getElem?_map];by_cases h:i<l.length
 ·simp[h,List.getD_eq_getElem?_getD]
 ·rw[List.getElem?_eq_none (by simp;omega),List.getElem?_eq_none (by omega)];rfl
theorem range_map_getD {β:Type} (n i:Nat) (g:Nat→β) (d:β) (h:i<n):((List.range n).map g).getD i d=g i:=by
 simp[List.getD_eq_getElem?_getD,h]
theorem Ev.bind' {α β:Type} {g:Nat→Option α} {f:Nat→α→Option β} {a:α} {r:β} (h:Ev g a) (k:Ev (fun n=>f n a) r):Ev (fun n=>(g n).bind (f n)) r:=Ev.bind h k
theorem Ev.cond {α:Type} {g f:Nat→Option α} {r:α} (h:∃K,∀k,K≤k→g k=f k) (k:Ev f r):Ev g r:=by
 obtain⟨K,h⟩:=h;obtain⟨K',k⟩:=k;exact⟨K+K',fun n hn=>by rw[h n (by omega)];exact k n (by omega)⟩
theorem Ev.round {α:Type} {g f:Nat→Option α} {r:α} (h:∃K,∀k,K≤k→g (k+1)=f k) (k:Ev f r):Ev g r:=by
 obtain⟨K,h⟩:=h;obtain⟨K',k⟩:=k
 exact⟨K+K'+1,fun n hn=>by
  obtain⟨m,rfl⟩:∃m,n=m+1:=⟨n-1,by omega⟩;rw[h m (by omega)];exact k m (by omega)⟩
theorem Ev.ends {α:Type} {g:Nat→Option α} {r:α} (h:∀k,g (k+1)=some r):Ev g r:=⟨1,fun n hn=>by
 obtain⟨m,rfl⟩:∃m,n=m+1:=⟨n-1,by omega⟩;exact h m⟩
theorem Ev.all {α:Type} {g:Nat→Option α} {r:α} (h:∀k,g k=some r):Ev g r:=⟨0,fun n _=>h n⟩
def toEntry (x:S95):S63:=(⟨x.f0,x.f1⟩:S63)
theorem toEntryS_ev (l:List S95) (h:l.length≤1048576):Ev (fun k=>laws_toEntryS.f k l) (l.map toEntry):=by
 have hf:=fill_loop (fun k out i=>laws_toEntryS.l0 k l out i) l.length (fun i=>toEntry (l.getD i z95)) z63 (fun i out r hi hl h=>?_) (fun out hl=>?_)
 ·rw[range_map_get]at hf;refine Ev.congr (fun k=>?_) hf;simp only[laws_toEntryS.f];rw[if_pos (by omega),if_pos (by omega)];rfl
 ·refine Ev.step (fun k=>?_) h;simp only[laws_toEntryS.l0,laws_toEntry.f,Option.bind_some,rd_T95,Int.toNat_natCast];rw[if_pos (by omega),if_pos (by omega),if_pos (by omega),wrap_succ (n:=l.length) hi (by omega)];rfl
 ·refine Ev.ends (fun k=>?_);simp only[laws_toEntryS.l0];rw[if_neg (by omega)]
def Both {α:Type} (P:α→Prop) (f g:Nat→Option α):Prop:=∃r,P r∧Ev f r∧Ev g r
namespace Both
variable {α β:Type} {P:α→Prop} {f f' g g':Nat→Option α}
theorem step (h1:∀k,f (k+1)=f' k) (h2:∀k,g (k+1)=g' k) (h:Both P f' g'):Both P f g:=by
 obtain⟨r,hp,a,b⟩:=h;exact⟨r,hp,Ev.step h1 a,Ev.step h2 b⟩
theorem left (h1:∀k,f (k+1)=f' k) (h:Both P f' g):Both P f g:=by
 obtain⟨r,hp,a,b⟩:=h;exact⟨r,hp,Ev.step h1 a,b⟩
theorem right (h2:∀k,g (k+1)=g' k) (h:Both P f g'):Both P f g:=by
 obtain⟨r,hp,a,b⟩:=h;exact⟨r,hp,a,Ev.step h2 b⟩
theorem ret (r:α) (h:P r):Both P (fun _=>some r) (fun _=>some r):=⟨r,h,Ev.now r,Ev.now r⟩
theorem ite {c:Prop} [Decidable c] (h1:c→Both P f g) (h2:¬c→Both P f' g'):Both P (fun k=>if c then f k else f' k) (fun k=>if c then g k else g' k):=by
 by_cases h:c
 ·simpa only [if_pos h] using h1 h
 ·simpa only [if_neg h] using h2 h
theorem bind {Q:β→Prop} {p q:Nat→Option β} {F G:Nat→β→Option α} (h:Both Q p q) (k:∀b,Q b→Both P (fun n=>F n b) (fun n=>G n b)):Both P (fun n=>(p n).bind (F n)) (fun n=>(q n).bind (G n)):=by
 obtain⟨b,hq,h1,h2⟩:=h;obtain⟨r,hp,a,c⟩:=k b hq;exact⟨r,hp,Ev.bind h1 a,Ev.bind h2 c⟩
theorem of {r:α} (h1:Ev f r) (h2:Ev g r) (hp:P r):Both P f g:=⟨r,hp,h1,h2⟩
theorem eq {r:α} (h1:Ev f r) (h2:Ev g r):Both (fun x=>x=r) f g:=⟨r,rfl,h1,h2⟩
theorem any {Q:α→Prop} (h:Both Q f g):Both (fun _=>True) f g:=by
 obtain⟨r,_,a,b⟩:=h;exact⟨r,trivial,a,b⟩
theorem mono {P':α→Prop} (h:Both P f g) (hi:∀r,P r→P' r):Both P' f g:=by
 obtain⟨r,hp,a,b⟩:=h;exact⟨r,hi r hp,a,b⟩
end Both
def Comes {α:Type} (P:α→Prop) (f:Nat→Option α):Prop:=∃r,P r∧Ev f r
namespace Comes
variable {α β:Type} {P:α→Prop} {f f':Nat→Option α}
theorem step (h1:∀k,f (k+1)=f' k) (h:Comes P f'):Comes P f:=by
 obtain⟨r,hp,a⟩:=h;exact⟨r,hp,Ev.step h1 a⟩
theorem ret (r:α) (h:P r):Comes P (fun _=>some r):=⟨r,h,Ev.now r⟩
theorem ite {c:Prop} [Decidable c] (h1:c→Comes P f) (h2:¬c→Comes P f'):Comes P (fun k=>if c then f k else f' k):=by
 by_cases h:c
 ·simpa only [if_pos h] using h1 h
 ·simpa only [if_neg h] using h2 h
theorem bind {Q:β→Prop} {p:Nat→Option β} {F:Nat→β→Option α} (h:Comes Q p) (k:∀b,Q b→Comes P (fun n=>F n b)):Comes P (fun n=>(p n).bind (F n)):=by
 obtain⟨b,hq,h1⟩:=h;obtain⟨r,hp,a⟩:=k b hq;exact⟨r,hp,Ev.bind h1 a⟩
theorem mono {P':α→Prop} (h:Comes P f) (hi:∀r,P r→P' r):Comes P' f:=by
 obtain⟨r,hp,a⟩:=h;exact⟨r,hi r hp,a⟩
theorem rounds (h:Comes P f):∃k r,f k=some r∧P r:=by
 obtain⟨r,hp,a⟩:=h;obtain⟨k,hk⟩:=a.rounds;exact⟨k,r,hk,hp⟩
theorem true_ {f:Nat→Option Bool} (h:Comes (fun b=>b=true) f):∃k,f k=some true:=by
 obtain⟨k,r,hk,rfl⟩:=h.rounds;exact⟨k,hk⟩
theorem some_ (o:Option α) (r:α) (h:o=some r) (hp:P r):Comes P (fun _=>o):=⟨r,hp,Ev.all (fun _=>h)⟩
end Comes
theorem sz_loop {α:Type} (l:List α) (z:α) (B:α→Prop) (F:Nat→Int→Int→Option Int) (g:Nat→Int→Nat→Option Int) (hl:l.length≤9223372036854775806)
 (hF:∀(k:Nat) (a:Int) (i:Nat),i<l.length→0≤a→a≤1048576→F (k+1) a (i:Int)=(g i a k).bind fun t=>if t<0 then some (-1) else F k t ((i+1:Nat):Int))
 (hg:∀(i:Nat) (a:Int),i<l.length→0≤a→a≤1048576→Comes (fun t=>t≤a∧(0≤t→B (l.getD i z))) (g i a))
 (he:∀(k:Nat) (a:Int),F (k+1) a (l.length:Int)=some a) (a:Int) (ha:0≤a) (hb:a≤1048576):Comes (fun t=>t≤a∧(0≤t→∀x ∈ l,B x)) (fun k=>F k a 0):=by
 have key:∀(d i:Nat) (a:Int),i+d=l.length→0≤a→a≤1048576→Comes (fun t=>t≤a∧(0≤t→∀j,i≤j→j<l.length→B (l.getD j z))) (fun k=>F k a (i:Int)):=by
  intro d
  induction d with
  |zero=>
   intro i a hi ha hb;have:i=l.length:=by omega
   subst this;refine Comes.step (fun k=>he k a) (Comes.ret a ⟨Int.le_refl a,fun _ j h1 h2=>by omega⟩)
  |succ d ih=>
   intro i a hi ha hb;refine Comes.step (fun k=>hF k a i (by omega) ha hb) (Comes.bind (hg i a (by omega) ha hb) (fun t ht=>Comes.ite (fun _=>Comes.ret (-1) ⟨by omega,fun h=>by omega⟩) (fun hn=>?_)));refine(ih (i+1) t (by omega) (by omega) (by omega)).mono (fun r hr=>⟨by omega,fun h0 j h1 h2=>?_⟩);by_cases hj:j=i
   ·subst hj;exact ht.2 (by omega)
   ·exact hr.2 h0 j (by omega) h2
 refine(key l.length 0 a (by omega) ha hb).mono (fun r hr=>⟨hr.1,fun h0 x hx=>?_⟩);obtain⟨j,hj,rfl⟩:=List.mem_iff_getElem.1 hx;have:=hr.2 h0 j (by omega) hj
 rwa [List.getD_eq_getElem?_getD,List.getElem?_eq_getElem hj]at this
theorem getD_mem {α:Type} {l:List α} {i:Nat} {z:α} (h:i<l.length):l.getD i z ∈ l:=by
 rw[List.getD_eq_getElem?_getD,List.getElem?_eq_getElem h];exact List.getElem_mem h
theorem szEntry_comes (x:S95) (hx:x.f0.size≤maxLen) (a:Int) (ha:0≤a) (hb:a≤1048576):∃t,laws_szEntry.f x.f0 x.f1 a=some t∧t≤a∧(0≤t→(x.f0.size:Int)≤a-t):=by
 unfold maxLen at hx;simp only[laws_szEntry.f,Option.bind_some,wrap64]
 (repeat' split)<;>first|exact⟨_,rfl,by omega,by omega⟩|(simp only[Option.bind_some];(repeat' split)<;>exact⟨_,rfl,by omega,by omega⟩)
theorem szEntryS_comes (l:List S95) (hx:l.length≤maxLen∧∀x ∈ l,(x.f0.size≤maxLen)) (a:Int) (ha:0≤a) (hb:a≤1048576):Comes (fun t=>t≤a∧(0≤t→(l.length:Int)≤a-t)) (fun k=>laws_szEntryS.f k l a):=by
 have hl:=hx.1;unfold maxLen at hl;have hw:wrap64 (a-(l.length:Int))=a-(l.length:Int):=wrap_id (by omega) (by omega);simp only[laws_szEntryS.f,hw];refine Comes.ite (fun _=>Comes.ret (-1) ⟨by omega,fun h=>by omega⟩) (fun hn=>?_);refine(sz_loop l z95 (fun _=>True) (fun k a i=>laws_szEntryS.l0 k l a i) (fun i a _=>laws_szEntry.f (l.getD i z95).f0 (l.getD i z95).f1 a) (by omega) (fun k a i hi _ _=>?_) (fun i a hi ha hb=>?_) (fun k a=>?_) _ (by omega) (by omega)).mono (fun t ht=>⟨by omega,fun h=>by omega⟩)
 ·simp only[laws_szEntryS.l0,rd_T95,Int.toNat_natCast];rw[if_pos (by omega),if_pos (by omega),wrap_succ (n:=l.length) hi (by omega)]
 ·obtain⟨t,h1,h2,h3⟩:=szEntry_comes (l.getD i z95) (hx.2 _ (getD_mem hi)) a ha hb;exact Comes.some_ _ t h1 ⟨h2,fun _=>trivial⟩
 ·simp only[laws_szEntryS.l0];rw[if_neg (by omega)]
theorem toByteS_l0 (xs:List Int) (hn:xs.length≤9223372036854775806):∀(d:Nat) (out:List Int) (i:Nat),i+d=xs.length→out.length=xs.length→out.take i=xs.take i →
 Ev (fun k=>laws_toByteS.l0 k xs out (i:Int)) xs:=by
 intro d
 induction d with
 |zero=>
  intro out i hi hl ht;have e:out=xs:=by rw[take_all ht (by omega),List.take_of_length_le (by omega)]
  refine Ev.step (f:=fun _=>some xs) (fun k=>?_) (Ev.now xs);simp only[laws_toByteS.l0];rw[if_neg (by omega),e]
 |succ d ih=>
  intro out i hi hl ht;refine Ev.step (f:=fun k=>laws_toByteS.l0 k xs (out.set i (xs.getD i 0)) ((i+1:Nat):Int)) (fun k=>?_) (ih _ _ (by omega) (by simp[hl]) ?_)
  ·simp only[laws_toByteS.l0];rw[if_pos (by omega),if_pos (by omega),if_pos (by omega),wrap_succ (n:=xs.length) (by omega) (by omega),rd_nat,Int.toNat_natCast]
  ·rw[take_set_succ _ _ _ (by omega),take_succ_getD _ _ 0 (by omega),ht]
theorem toByteS_ev (xs:List Int) (hn:xs.length≤281474976710656):Ev (fun k=>laws_toByteS.f k xs) xs:=by
 have h:=toByteS_l0 xs (by omega) xs.length (List.replicate xs.length 0) 0 (by omega) (by simp) (by simp);refine Ev.congr (fun k=>?_) h;simp only[laws_toByteS.f];rw[if_pos (by omega),if_pos (by omega)];rfl
theorem eqEntry_self (x:S63):laws_eqEntry.f x.f0 x.f1 x.f0 x.f1=some true:=by
 simp[laws_eqEntry.f]
theorem eqEntryS_ev (l:List S63) (h:l.length≤9223372036854775806):Ev (fun k=>laws_eqEntryS.f k l l) true:=by
 refine Ev.congr (fun k=>?_) (scan_loop (fun i k=>laws_eqEntryS.l0 k l l (i:Int)) l.length true (fun i hi h=>?_) ?_)
 ·simp only[laws_eqEntryS.f];rw[if_pos trivial];rfl
 ·refine Ev.step (fun k=>?_) h;simp only[laws_eqEntryS.l0,eqEntry_self,Option.bind_some];rw[if_pos (by omega),if_pos (by omega),if_pos (by omega),wrap_succ (n:=l.length) hi (by omega)];rfl
 ·refine Ev.ends (fun k=>?_);simp only[laws_eqEntryS.l0];rw[if_neg (by omega)]
theorem eqByteS_l0 (xs:List Int) (hn:xs.length≤9223372036854775806):∀(d i:Nat),i+d=xs.length→Ev (fun k=>laws_eqByteS.l0 k xs xs (i:Int)) true:=by
 intro d
 induction d with
 |zero=>
  intro i hi;refine Ev.step (f:=fun _=>some true) (fun k=>?_) (Ev.now true);simp only[laws_eqByteS.l0];rw[if_neg (by omega)]
 |succ d ih=>
  intro i hi;refine Ev.step (f:=fun k=>laws_eqByteS.l0 k xs xs ((i+1:Nat):Int)) (fun k=>?_) (ih _ (by omega));simp only[laws_eqByteS.l0];rw[if_pos (by omega),if_pos (by omega),if_pos (by omega),if_pos trivial,wrap_succ (n:=xs.length) (by omega) (by omega)]
theorem eqByteS_ev (xs:List Int) (hn:xs.length≤9223372036854775806):Ev (fun k=>laws_eqByteS.f k xs xs) true:=by
 refine Ev.congr (fun k=>?_) (eqByteS_l0 xs hn xs.length 0 (by omega));simp only[laws_eqByteS.f];rw[if_pos trivial];rfl
theorem eqInodeS_ev (l:List S80) (h:l.length≤1048576) (hd:∀x ∈ l,x.f1.length≤4194304):Ev (fun k=>laws_eqInodeS.f k l l) true:=by
 refine Ev.congr (fun k=>?_) (scan_loop (fun i k=>laws_eqInodeS.l0 k l l (i:Int)) l.length true (fun i hi h=>?_) ?_)
 ·simp only[laws_eqInodeS.f];rw[if_pos trivial];rfl
 ·have hm:l.getD i z80 ∈ l:=getD_mem hi;obtain⟨K,hK⟩:=eqByteS_ev (l.getD i z80).f1 (by have:=hd _ hm;omega);refine Ev.round ⟨K,fun k hk=>?_⟩ h;have t:=hK k hk;dsimp only at t;simp only[laws_eqInodeS.l0,laws_eqInode.f,rd_T80,Int.toNat_natCast,t,Option.bind_some,if_true];rw[if_pos (by omega),if_pos (by omega),if_pos (by omega),wrap_succ (n:=l.length) hi (by omega)]
 ·refine Ev.ends (fun k=>?_);simp only[laws_eqInodeS.l0];rw[if_neg (by omega)]
theorem eqDisk_ev (a:List S80) (b c:List S63) (n:Int) (h0:a.length≤1048576) (hd:∀x ∈ a,x.f1.length≤4194304) (h1:b.length≤1048576) (h2:c.length≤1048576):Ev (fun k=>laws_eqDisk.f k a b c n a b c n) true:=by
 obtain⟨K0,e0⟩:=eqInodeS_ev a h0 hd;obtain⟨K1,e1⟩:=eqEntryS_ev b (by omega);obtain⟨K2,e2⟩:=eqEntryS_ev c (by omega);dsimp only at e0 e1 e2;exact⟨K0+K1+K2,fun k hk=>by simp only[laws_eqDisk.f];rw[e0 k (by omega),Option.bind_some,if_pos rfl,e1 k (by omega),Option.bind_some,if_pos rfl,e2 k (by omega),Option.bind_some,if_pos rfl,if_pos trivial]⟩
def toInode (x:S93):S80:=(⟨x.f0,x.f1,x.f2⟩:S80)
theorem toInodeS_ev (l:List S93) (h:l.length≤1048576) (hd:∀x ∈ l,x.f1.length≤1048576):Ev (fun k=>laws_toInodeS.f k l) (l.map toInode):=by
 have hf:=fill_loop (fun k out i=>laws_toInodeS.l0 k l out i) l.length (fun i=>toInode (l.getD i z93)) z80 (fun i out r hi hl h=>?_) (fun out hl=>?_)
 ·rw[range_map_get]at hf;refine Ev.congr (fun k=>?_) hf;simp only[laws_toInodeS.f];rw[if_pos (by omega),if_pos (by omega)];rfl
 ·have hm:l.getD i z93 ∈ l:=getD_mem hi;obtain⟨K,hK⟩:=toByteS_ev (l.getD i z93).f1 (by have:=hd _ hm;omega);refine Ev.round ⟨K,fun k hk=>?_⟩ h;have t:=hK k hk;dsimp only at t;simp only[laws_toInodeS.l0,laws_toInode.f,rd_T93,Int.toNat_natCast];rw[if_pos (by omega),if_pos (by omega),t,Option.bind_some,Option.bind_some,if_pos (by omega),wrap_succ (n:=l.length) hi (by omega)];rfl
 ·refine Ev.ends (fun k=>?_);simp only[laws_toInodeS.l0];rw[if_neg (by omega)]
theorem toDisk_ev (x:S25) (h0:x.f0.length≤1048576) (hd:∀y ∈ x.f0,y.f1.length≤1048576) (h1:x.f1.length≤1048576) (h2:x.f2.length≤1048576):Ev (fun k=>laws_toDisk.f k x.f0 x.f1 x.f2 x.f3) (x.f0.map toInode,x.f1.map toEntry,x.f2.map toEntry,x.f3):=by
 obtain⟨K0,e0⟩:=toInodeS_ev x.f0 h0 hd;obtain⟨K1,e1⟩:=toEntryS_ev x.f1 h1;obtain⟨K2,e2⟩:=toEntryS_ev x.f2 h2;dsimp only at e0 e1 e2;exact⟨K0+K1+K2,fun k hk=>by simp only[laws_toDisk.f];rw[e0 k (by omega),Option.bind_some,e1 k (by omega),Option.bind_some,e2 k (by omega),Option.bind_some]⟩
theorem szInode_comes (x:S93) (hx:x.f1.length≤maxLen) (a:Int) (ha:0≤a) (hb:a≤1048576):∃t,laws_szInode.f x.f0 x.f1 x.f2 a=some t∧t≤a∧(0≤t→(x.f1.length:Int)≤a-t):=by
 unfold maxLen at hx;simp only[laws_szInode.f,laws_szByteS.f,wrap64]
 (repeat' split)<;>first|exact⟨_,rfl,by omega,by omega⟩|(simp only[Option.bind_some];(repeat' split)<;>exact⟨_,rfl,by omega,by omega⟩)
theorem szInodeS_comes (l:List S93) (hx:l.length≤maxLen∧∀x ∈ l,x.f1.length≤maxLen) (a:Int) (ha:0≤a) (hb:a≤1048576):Comes (fun t=>t≤a∧(0≤t→(l.length:Int)≤a-t∧∀x ∈ l,x.f1.length≤1048576)) (fun k=>laws_szInodeS.f k l a):=by
 have hl:=hx.1;unfold maxLen at hl;have hw:wrap64 (a-(l.length:Int))=a-(l.length:Int):=wrap_id (by omega) (by omega);simp only[laws_szInodeS.f,hw];refine Comes.ite (fun _=>Comes.ret (-1) ⟨by omega,fun h=>by omega⟩) (fun hn=>?_);refine(sz_loop l z93 (fun x=>x.f1.length≤1048576) (fun k a i=>laws_szInodeS.l0 k l a i) (fun i a _=>laws_szInode.f (l.getD i z93).f0 (l.getD i z93).f1 (l.getD i z93).f2 a) (by omega) (fun k a i hi _ _=>?_) (fun i a hi ha hb=>?_) (fun k a=>?_) _ (by omega) (by omega)).mono (fun t ht=>⟨by omega,fun h=>⟨by omega,ht.2 h⟩⟩)
 ·simp only[laws_szInodeS.l0,rd_T93,Int.toNat_natCast];rw[if_pos (by omega),if_pos (by omega),wrap_succ (n:=l.length) hi (by omega)]
 ·obtain⟨t,h1,h2,h3⟩:=szInode_comes (l.getD i z93) (hx.2 _ (getD_mem hi)) a ha hb;exact Comes.some_ _ t h1 ⟨h2,fun h0=>by have:=h3 h0;omega⟩
 ·simp only[laws_szInodeS.l0];rw[if_neg (by omega)]
theorem szDisk_comes (x:S25) (h0:x.f0.length≤maxLen∧∀y ∈ x.f0,y.f1.length≤maxLen) (h1:x.f1.length≤maxLen∧∀y ∈ x.f1,y.f0.size≤maxLen) (h2:x.f2.length≤maxLen∧∀y ∈ x.f2,y.f0.size≤maxLen) (a:Int) (ha:0≤a) (hb:a≤1048576) :
 Comes (fun t=>t≤a∧(0≤t→x.f0.length≤1048576∧(∀y ∈ x.f0,y.f1.length≤1048576)∧x.f1.length≤1048576∧x.f2.length≤1048576)) (fun k=>laws_szDisk.f k x.f0 x.f1 x.f2 x.f3 a):=by
 simp only[laws_szDisk.f];refine Comes.bind (szInodeS_comes x.f0 h0 a ha hb) (fun t ht=>Comes.ite (fun _=>Comes.ret _ ⟨by omega,fun h=>by omega⟩) (fun hn=>?_));have r0:=ht.2 (by omega);refine Comes.bind (szEntryS_comes x.f1 h1 t (by omega) (by omega)) (fun u hu=>Comes.ite (fun _=>Comes.ret _ ⟨by omega,fun h=>by omega⟩) (fun hn2=>?_));have r1:=hu.2 (by omega);refine Comes.bind (szEntryS_comes x.f2 h2 u (by omega) (by omega)) (fun v hv=>Comes.ite (fun _=>Comes.ret _ ⟨by omega,fun h=>by omega⟩) (fun hn3=>?_));have r2:=hv.2 (by omega);exact Comes.ret v ⟨by omega,fun _=>⟨by omega,r0.2,by omega,by omega⟩⟩
def markB (a:Int) (n:Nat):List Int:=(List.range n).map fun (j:Nat)=>(a+(j:Int)) % 256
theorem markB_length (a:Int) (n:Nat):(markB a n).length=n:=by simp[markB]
theorem markB_succ (a:Int) (n:Nat):markB a (n+1)=markB a n++[(a+(n:Int)) % 256]:=by simp[markB,List.range_succ]
theorem markB_get (a:Int) (n i:Nat) (h:i<n):(markB a n).getD i 0=(a+(i:Int)) % 256:=by
 simp[markB,List.getD_eq_getElem?_getD,h]
theorem markByteS_l0 (a:Int) (n:Nat) (ha:0≤a) (hb:a+n≤9223372036854775806):∀(d:Nat) (l:List Int) (i:Nat),i+d=n→l.length=n→l.take i=markB a i →
 Ev (fun k=>laws_markByteS.l0 k l (a+(i:Int)) (i:Int)) (a+(n:Int),markB a n):=by
 intro d
 induction d with
 |zero=>
  intro l i hi hl ht;have hin:i=n:=by omega
  subst hin;have e:l=markB a i:=take_all ht hl;refine Ev.step (f:=fun _=>some (a+(i:Int),markB a i)) (fun k=>?_) (Ev.now _);simp only[laws_markByteS.l0];rw[if_neg (by omega),e]
 |succ d ih=>
  intro l i hi hl ht;refine Ev.step (f:=fun k=>laws_markByteS.l0 k (l.set i ((a+(i:Int)) % 256)) (a+((i+1:Nat):Int)) ((i+1:Nat):Int)) (fun k=>?_) (ih _ _ (by omega) (by simp[hl]) ?_)
  ·simp only[laws_markByteS.l0];rw[if_pos (by omega),if_pos (by omega),wrap_succ (n:=n) (by omega) (by omega),Int.toNat_natCast,wrap_id (i:=a+(i:Int)+1) (by omega) (by omega)];congr 1;omega
  ·rw[take_set_succ _ _ _ (by omega),markB_succ,ht]
theorem markByteS_ev (l:List Int) (a:Int) (ha:0≤a) (hb:a+l.length≤9223372036854775806):Ev (fun k=>laws_markByteS.f k l a) (a+(l.length:Int),markB a l.length):=by
 refine Ev.congr (fun k=>?_) (markByteS_l0 a l.length ha hb l.length l 0 (by omega) rfl rfl);simp only[laws_markByteS.f];congr 1;simp
def mtR:Nat→Int→ByteArray→ByteArray
 |0,_,s=>s
 |d+1,k,s=>if k>0 then mtR d (k / 10) (strOfNums [(48+k % 10) % 256]++s) else s
def mtext (k:Int):ByteArray:=if k≤0 then ⟨#[109,48]⟩ else ⟨#[109]⟩++mtR 20 k ⟨#[]⟩
theorem markText_l0:∀(d:Nat) (k:Int) (s:ByteArray),k<10 ^ d→k≤9223372036854775807→s.size+d≤9223372036854775806→Ev (fun q=>laws_markText.l0 q k s) (⟨#[109]⟩++mtR d k s):=by
 intro d
 induction d with
 |zero=>
  intro k s hk hk2 hs;refine Ev.ends (fun q=>?_);simp only[laws_markText.l0];rw[if_neg (by omega),if_pos (by omega)];rfl
 |succ d ih=>
  intro k s hk hk2 hs;by_cases h0:k>0
  ·have hp:(10:Int) ^ (d+1)=10 ^ d*10:=Int.pow_succ ..;have hsz:(strOfNums [(48+k % 10) % 256]++s).size=1+s.size:=by rw[ByteArray.size_append];rfl
   have hm:Int.tmod k 10=k % 10:=Int.tmod_eq_emod_of_nonneg (by omega);have hd:Int.tdiv k 10=k / 10:=Int.tdiv_eq_ediv_of_nonneg (by omega);have:=ih (k / 10) (strOfNums [(48+k % 10) % 256]++s) (by omega) (by omega) (by omega);unfold mtR;rw[if_pos h0];refine Ev.step (fun q=>?_) this;simp only[laws_markText.l0,Option.bind_some];rw[if_pos h0,hm,hd,wrap_id (i:=48+k % 10) (by omega) (by omega),wrap_id (i:=k / 10) (by omega) (by omega),if_pos (by rw[←ByteArray.size_append,hsz];omega)]
  ·unfold mtR;rw[if_neg h0];refine Ev.ends (fun q=>?_);simp only[laws_markText.l0];rw[if_neg h0,if_pos (by omega)]
theorem markText_ev (k:Int) (h:k≤9223372036854775807):Ev (fun q=>laws_markText.f q k) (mtext k):=by
 unfold mtext;by_cases h0:k≤0
 ·rw[if_pos h0];exact Ev.all (fun q=>by simp only[laws_markText.f];rw[if_pos h0])
 ·rw[if_neg h0];refine Ev.congr (fun q=>?_) (markText_l0 20 k ⟨#[]⟩ (by omega) h (show (0:Nat)+20≤9223372036854775806 by omega));simp only[laws_markText.f];rw[if_neg h0]
theorem getD_set_eq {α:Type} {l:List α} {i:Nat} (x z:α) (h:i<l.length):(l.set i x).getD i z=x:=by
 rw[List.getD_eq_getElem?_getD,List.getElem?_set_self h];rfl
def mkEntry (k:Int):S63:=(⟨mtext (k),(k+1)⟩:S63)
def mkEntryL (a:Int) (n:Nat):List S63:=(List.range n).map fun (i:Nat)=>mkEntry (a+2*(i:Int))
theorem mkEntryL_length (a:Int) (n:Nat):(mkEntryL a n).length=n:=by simp[mkEntryL]
theorem markEntryS_ev (l:List S63) (a:Int) (ha:0≤a) (hb:a+2*(l.length:Int)≤4611686018427387904):Ev (fun k=>laws_markEntryS.f k l a) (a+2*(l.length:Int),mkEntryL a l.length):=by
 have hm:=mark_loop (fun k out s i=>laws_markEntryS.l0 k out s i) l.length (fun i=>mkEntry (a+2*(i:Int))) (fun i=>a+2*(i:Int)) (fun i out r hi hl h=>?_) (fun out hl=>?_) l rfl
 ·refine Ev.congr (fun k=>?_) hm;simp only[laws_markEntryS.f];congr 1;simp
 ·(try dsimp only at h ⊢)
  obtain⟨K0,h0⟩:=markText_ev (a+2*(i:Int)) (by omega);refine Ev.round ⟨0+K0,fun k hk=>?_⟩ h;have t0:=h0 k (by omega);dsimp only at t0;have e1:((i:Int)<(out.length:Int))=True:=eq_true (by omega);have e2:(0≤(i:Int))=True:=eq_true (by omega);have ew:wrap64 ((i:Int)+1)=((i+1:Nat):Int):=wrap_succ (n:=l.length) hi (by omega);have w1:wrap64 (a+2*(i:Int)+1)=a+2*(i:Int)+1:=wrap_id (by omega) (by omega);have w2:wrap64 (a+2*(i:Int)+2)=a+2*(i:Int)+2:=wrap_id (by omega) (by omega);have ad2:a+2*(i:Int)+1+1=a+2*(i:Int)+2:=by omega
  have ae:a+2*(i:Int)+2=a+2*((i+1:Nat):Int):=by omega
  simp only[laws_markEntryS.l0,e1,e2,if_true,t0,Option.bind_some,w1,w2,ad2,ew,rd_T63,Int.toNat_natCast,List.set_set,getD_set_eq _ _ (show i<out.length by omega)]
  (rw[ae])<;>rfl
 ·refine Ev.ends (fun k=>?_);simp only[laws_markEntryS.l0];rw[if_neg (by omega)]
def inoAt (l:List S80) (a:Int):Nat→Int
 |0=>a
 |i+1=>inoAt l a i+2+((rd_T80 l (i:Int)).f1.length:Int)
def mkIno (l:List S80) (a:Int) (i:Nat):S80:=(⟨inoAt l a i,markB (inoAt l a i+1) (rd_T80 l (i:Int)).f1.length,inoAt l a i+1+((rd_T80 l (i:Int)).f1.length:Int)⟩:S80)
def mkInoL (l:List S80) (a:Int):List S80:=(List.range l.length).map (mkIno l a)
theorem mkInoL_length (l:List S80) (a:Int):(mkInoL l a).length=l.length:=by simp[mkInoL]
theorem rdI_in {l:List S80} {i:Nat} (h:i<l.length):rd_T80 l (i:Int) ∈ l:=getD_mem h
theorem inoAt_le (l:List S80) (hd:∀x ∈ l,x.f1.length≤4194304) (a:Int):∀i,i≤l.length→a≤inoAt l a i∧inoAt l a i≤a+(i:Int)*4194306
 |0,_=>by simp[inoAt]
 |i+1,h=>by
  have h1:=inoAt_le l hd a i (by omega);have h2:=hd _ (rdI_in (show i<l.length by omega));simp only[inoAt];omega
theorem mark_loop2 {β σ:Type} (L:Nat→List β→σ→Int→Option (σ × List β)) (l:List β) (z:β) (g:Nat→β) (st:Nat→σ)
 (hs:∀(i:Nat) (out:List β) (r:σ × List β),i<l.length→out.length=l.length→out.getD i z=l.getD i z→Ev (fun k=>L k (out.set i (g i)) (st (i+1)) ((i+1:Nat):Int)) r→Ev (fun k=>L k out (st i) (i:Int)) r)
 (he:∀out:List β,out.length=l.length→Ev (fun k=>L k out (st l.length) (l.length:Int)) (st l.length,out)):Ev (fun k=>L k l (st 0) 0) (st l.length,(List.range l.length).map g):=by
 have key:∀(d i:Nat) (out:List β),i+d=l.length→out.length=l.length→out.take i=(List.range i).map g→(∀j,i≤j→out.getD j z=l.getD j z)→Ev (fun k=>L k out (st i) (i:Int)) (st l.length,(List.range l.length).map g):=by
  intro d
  induction d with
  |zero=>
   intro i out hi hl ht _;have hin:i=l.length:=by omega
   subst hin;have e:=take_all ht hl;rw[←e];exact he out hl
  |succ d ih=>
   intro i out hi hl ht hg;refine hs i out _ (by omega) hl (hg i (Nat.le_refl _)) (ih (i+1) _ (by omega) (by simp[hl]) ?_ (fun j hj=>?_))
   ·rw[take_set_succ _ _ _ (by omega),ht,List.range_succ,List.map_append];rfl
   ·rw[←hg j (by omega),List.getD_eq_getElem?_getD,List.getD_eq_getElem?_getD,List.getElem?_set_ne (by omega)]
 exact key l.length 0 l (by omega) rfl (by simp) (fun _ _=>rfl)
theorem markInodeS_ev (l:List S80) (a:Int) (ha:0≤a) (hb:a≤4611686018427387904) (h:l.length≤1048576) (hd:∀x ∈ l,x.f1.length≤4194304):Ev (fun k=>laws_markInodeS.f k l a) (inoAt l a l.length,mkInoL l a):=by
 have hle:=inoAt_le l hd a;have hm:=mark_loop2 (fun k out s i=>laws_markInodeS.l0 k out s i) l z80 (mkIno l a) (inoAt l a) (fun i out r hi hl hg h=>?_) (fun out hl=>?_)
 ·refine Ev.congr (fun k=>?_) hm;simp only[laws_markInodeS.f];rfl
 ·have hrd:rd_T80 out (i:Int)=rd_T80 l (i:Int):=hg;have b1:=hle i (by omega);have b2:=hd _ (rdI_in hi);obtain⟨K0,h0⟩:=markByteS_ev (rd_T80 l (i:Int)).f1 (inoAt l a i+1) (by omega) (by omega);refine Ev.round ⟨K0,fun k hk=>?_⟩ h;have t0:=h0 k (by omega);dsimp only at t0;simp only[laws_markInodeS.l0,hrd,Int.toNat_natCast];rw[if_pos (by omega),if_pos (by omega),wrap_id (i:=inoAt l a i+1) (by omega) (by omega),t0,Option.bind_some,wrap_succ (n:=l.length) hi (by omega),wrap_id (by simp only[];omega) (by simp only[];omega)];simp only[mkIno,inoAt];congr 1;omega
 ·refine Ev.ends (fun k=>?_);simp only[laws_markInodeS.l0];rw[if_neg (by omega)]
theorem markDisk_only (a:List S80) (b c:List S63) (n:Int) (h0:a.length≤1048576) (hd:∀x ∈ a,x.f1.length≤4194304) (h1:b.length≤1048576) (h2:c.length≤1048576) :
 0≤inoAt a 1 a.length+2*(b.length:Int)+2*(c.length:Int)∧Ev (fun k=>laws_markDisk.f k a b c n 1) (inoAt a 1 a.length+2*(b.length:Int)+2*(c.length:Int),mkInoL a 1,mkEntryL (inoAt a 1 a.length) b.length,mkEntryL (inoAt a 1 a.length+2*(b.length:Int)) c.length):=by
 have l0:=(inoAt_le a hd 1 a.length (Nat.le_refl _));obtain⟨K0,e0⟩:=markInodeS_ev a 1 (by omega) (by omega) h0 hd;obtain⟨K1,e1⟩:=markEntryS_ev b (inoAt a 1 a.length) (by omega) (by omega);obtain⟨K2,e2⟩:=markEntryS_ev c (inoAt a 1 a.length+2*(b.length:Int)) (by omega) (by omega);dsimp only at e0 e1 e2;exact⟨by omega,K0+K1+K2,fun k hk=>by simp only[laws_markDisk.f];rw[e0 k (by omega),Option.bind_some,e1 k (by omega),Option.bind_some,e2 k (by omega),Option.bind_some]⟩
theorem heldByteS_l0 (a:Int) (n:Nat) (ha:0≤a) (hb:a+n≤9223372036854775806):∀(d i:Nat),i+d=n→Ev (fun k=>laws_heldByteS.l0 k (markB a n) (a+(i:Int)) (i:Int)) (a+(n:Int)):=by
 intro d
 induction d with
 |zero=>
  intro i hi;have hin:i=n:=by omega
  subst hin;refine Ev.step (f:=fun _=>some (a+(i:Int))) (fun k=>?_) (Ev.now _);simp only[laws_heldByteS.l0,markB_length];rw[if_neg (by omega)]
 |succ d ih=>
  intro i hi;refine Ev.step (f:=fun k=>laws_heldByteS.l0 k (markB a n) (a+((i+1:Nat):Int)) ((i+1:Nat):Int)) (fun k=>?_) (ih _ (by omega));simp only[laws_heldByteS.l0,markB_length];rw[if_pos (by omega),if_pos (by omega),rd_nat,if_pos (markB_get a n i (by omega)),wrap_succ (n:=n) (by omega) (by omega),wrap_id (i:=a+(i:Int)+1) (by omega) (by omega)];congr 1;omega
theorem heldByteS_ev (a:Int) (n:Nat) (ha:0≤a) (hb:a+n≤9223372036854775806):Ev (fun k=>laws_heldByteS.f k (markB a n) a) (a+(n:Int)):=by
 refine Ev.congr (fun k=>?_) (heldByteS_l0 a n ha hb n 0 (by omega));simp only[laws_heldByteS.f];congr 1;simp
theorem heldEntryS_ev (a:Int) (n:Nat) (ha:0≤a) (hb:a+2*(n:Int)≤4611686018427387904):Ev (fun k=>laws_heldEntryS.f k (mkEntryL a n) a) (a+2*(n:Int)):=by
 refine Ev.congr (fun k=>?_) (scan_loop (fun i k=>laws_heldEntryS.l0 k (mkEntryL a n) (a+2*(i:Int)) (i:Int)) n (a+2*(n:Int)) (fun i hi h=>?_) ?_)
 ·simp only[laws_heldEntryS.f];congr 1;simp
 ·(try dsimp only at h ⊢)
  obtain⟨K0,h0⟩:=markText_ev (a+2*(i:Int)) (by omega);refine Ev.round ⟨0+K0,fun k hk=>?_⟩ h;have t0:=h0 k (by omega);dsimp only at t0;have e1:((i:Int)<(n:Int))=True:=eq_true (by omega);have e2:(0≤(i:Int))=True:=eq_true (by omega);have ew:wrap64 ((i:Int)+1)=((i+1:Nat):Int):=wrap_succ (n:=n) hi (by omega);have eg:(mkEntryL a n).getD i z63=mkEntry (a+2*(i:Int)):=range_map_getD n i _ _ hi;have w1:wrap64 (a+2*(i:Int)+1)=a+2*(i:Int)+1:=wrap_id (by omega) (by omega);have w2:wrap64 (a+2*(i:Int)+2)=a+2*(i:Int)+2:=wrap_id (by omega) (by omega);have ad2:a+2*(i:Int)+1+1=a+2*(i:Int)+2:=by omega
  have ae:a+2*(i:Int)+2=a+2*((i+1:Nat):Int):=by omega
  simp only[laws_heldEntryS.l0,mkEntryL_length,e1,e2,if_true,t0,Option.bind_some,w1,w2,ad2,ew,rd_T63,Int.toNat_natCast,eg,mkEntry,bne_self_eq_false,Bool.false_eq_true,if_false]
  first|((rw[ae])<;>rfl)|(simp only[beq_self_eq_true,bne_self_eq_false,Bool.false_eq_true,if_false,if_true,ae])
 ·refine Ev.ends (fun k=>?_);simp only[laws_heldEntryS.l0,mkEntryL_length];rw[if_neg (by omega)]
theorem heldInodeS_ev (l:List S80) (a:Int) (ha:0≤a) (hb:a≤4611686018427387904) (h:l.length≤1048576) (hd:∀x ∈ l,x.f1.length≤4194304):Ev (fun k=>laws_heldInodeS.f k (mkInoL l a) a) (inoAt l a l.length):=by
 have hle:=inoAt_le l hd a;refine Ev.congr (fun k=>?_) (scan_loop (fun i k=>laws_heldInodeS.l0 k (mkInoL l a) (inoAt l a i) (i:Int)) l.length (inoAt l a l.length) (fun i hi h=>?_) ?_)
 ·simp only[laws_heldInodeS.f];rfl
 ·have hrd:rd_T80 (mkInoL l a) (i:Int)=mkIno l a i:=range_map_getD l.length i _ _ hi;have b1:=hle i (by omega);have b2:=hd _ (rdI_in hi);obtain⟨K0,h0⟩:=heldByteS_ev (inoAt l a i+1) (rd_T80 l (i:Int)).f1.length (by omega) (by omega);refine Ev.round ⟨K0,fun k hk=>?_⟩ h;have t0:=h0 k (by omega);dsimp only at t0
  have t1:laws_heldByteS.f k (mkIno l a i).f1 (wrap64 (inoAt l a i+1))=some (inoAt l a i+1+((rd_T80 l (i:Int)).f1.length:Int)):=by
   rw[wrap_id (i:=inoAt l a i+1) (by omega) (by omega)];exact t0
  simp only[laws_heldInodeS.l0,mkInoL_length,hrd];rw[if_pos (by omega),if_pos (by omega),if_pos (show (mkIno l a i).f0=inoAt l a i from rfl),t1,Option.bind_some,if_neg (by omega),if_pos (show (mkIno l a i).f2=inoAt l a i+1+((rd_T80 l (i:Int)).f1.length:Int) from rfl),wrap_succ (n:=l.length) hi (by omega),wrap_id (by omega) (by omega)];simp only[inoAt];congr 1;omega
 ·refine Ev.ends (fun k=>?_);simp only[laws_heldInodeS.l0,mkInoL_length];rw[if_neg (by omega)]
theorem markDisk_ev (a:List S80) (b c:List S63) (n:Int) (h0:a.length≤1048576) (hd:∀x ∈ a,x.f1.length≤4194304) (h1:b.length≤1048576) (h2:c.length≤1048576) :
 ∃(m:Int) (a':List S80) (b' c':List S63),0≤m∧Ev (fun k=>laws_markDisk.f k a b c n 1) (m,a',b',c')∧Ev (fun k=>laws_heldDisk.f k a' b' c' n 1) m:=by
 have l0:=(inoAt_le a hd 1 a.length (Nat.le_refl _));obtain⟨K3,e3⟩:=heldInodeS_ev a 1 (by omega) (by omega) h0 hd;obtain⟨K4,e4⟩:=heldEntryS_ev (inoAt a 1 a.length) b.length (by omega) (by omega);obtain⟨K5,e5⟩:=heldEntryS_ev (inoAt a 1 a.length+2*(b.length:Int)) c.length (by omega) (by omega);dsimp only at e3 e4 e5;have hm:=markDisk_only a b c n h0 hd h1 h2;exact⟨_,_,_,_,hm.1,hm.2,K3+K4+K5,fun k hk=>by simp only[laws_heldDisk.f];rw[e3 k (by omega),Option.bind_some,if_neg (by omega),e4 k (by omega),Option.bind_some,if_neg (by omega),e5 k (by omega),Option.bind_some,if_neg (by omega)]⟩
def firstOr {ρ:Type} (p:Nat→Bool) (stop:Nat→ρ) (e:ρ):Nat→Nat→ρ
 |_,0=>e
 |i,d+1=>if p i=true then stop i else firstOr p stop e (i+1) d
theorem first_loop {ρ:Type} (g:Nat→Nat→Option ρ) (n:Nat) (p:Nat→Bool) (stop:Nat→ρ) (e:ρ)
 (hs:∀(i:Nat) (r:ρ),i<n→p i=false→Ev (g (i+1)) r→Ev (g i) r) (ht:∀i,i<n→p i=true→Ev (g i) (stop i)) (he:Ev (g n) e):Ev (g 0) (firstOr p stop e 0 n):=by
 have key:∀(d i:Nat),i+d=n→Ev (g i) (firstOr p stop e i d):=by
  intro d
  induction d with
  |zero=>
   intro i hi;have:i=n:=by omega
   subst this;exact he
  |succ d ih=>
   intro i hi;simp only[firstOr];by_cases h:p i=true
   ·rw[if_pos h];exact ht i (by omega) h
   ·rw[if_neg h];exact hs i _ (by omega) (by simpa using h) (ih (i+1) (by omega))
 exact key n 0 (by omega)
theorem firstOr_congr {ρ:Type} {p q:Nat→Bool} {stop:Nat→ρ} {e:ρ}:∀(d i:Nat),(∀j,i≤j→j<i+d→p j=q j)→firstOr p stop e i d=firstOr q stop e i d
 |0,_,_=>rfl
 |d+1,i,h=>by
  simp only[firstOr];rw[h i (by omega) (by omega),firstOr_congr d (i+1) (fun j h1 h2=>h j (by omega) (by omega))]
theorem firstOr_false {e:Bool} {p:Nat→Bool}:∀(d i:Nat),firstOr p (fun _=>false) e i d=(!firstOr p (fun _=>true) false i d&&e)
 |0,_=>by simp[firstOr]
 |d+1,i=>by
  simp only[firstOr];by_cases h:p i=true
  ·rw[if_pos h,if_pos h];rfl
  ·rw[if_neg h,if_neg h];exact firstOr_false d (i+1)
theorem firstOr_none {p:Nat→Bool}:∀(d i:Nat),firstOr p (fun _=>true) false i d=false→∀j,i≤j→j<i+d→p j=false
 |0,i,_,j,h1,h2=>by omega
 |d+1,i,h,j,h1,h2=>by
  simp only[firstOr]at h;by_cases hp:p i=true
  ·rw[if_pos hp]at h;cases h
  ·rw[if_neg hp]at h;by_cases hj:j=i
   ·subst hj;simpa using hp
   ·exact firstOr_none d (i+1) h j (by omega) (by omega)
theorem firstOr_some {p:Nat→Bool}:∀(d i:Nat),firstOr p (fun _=>true) false i d=true→∃j,i≤j∧j<i+d∧p j=true
 |0,_,h=>by simp[firstOr]at h
 |d+1,i,h=>by
  simp only[firstOr]at h;by_cases hp:p i=true
  ·exact⟨i,by omega,by omega,hp⟩
  ·rw[if_neg hp]at h;obtain⟨j,h1,h2,h3⟩:=firstOr_some d (i+1) h;exact⟨j,by omega,by omega,h3⟩
theorem rdE_mem {l:List S63} {i:Nat} (h:i<l.length):rd_T63 l (i:Int) ∈ l:=getD_mem h
theorem rdI_mem {l:List S80} {i:Nat} (h:i<l.length):rd_T80 l (i:Int) ∈ l:=getD_mem h
theorem rdE_take (l:List S63) (i j:Nat) (h:j<i):rd_T63 (l.take i) (j:Int)=rd_T63 l (j:Int):=by
 simp only[rd_T63,Int.toNat_natCast];rw[List.getD_eq_getElem?_getD,List.getD_eq_getElem?_getD,List.getElem?_take,if_pos h]
def named (l:List S63) (id:Int):Bool:=firstOr (fun i=>decide ((rd_T63 l (i:Int)).f1=id)) (fun _=>true) false 0 l.length
theorem l2Named_ev (l:List S63) (h:l.length≤1048576) (id:Int):Ev (fun k=>spec_l2Named.f k l id) (named l id):=by
 refine Ev.congr (fun k=>?_) (first_loop (fun i k=>spec_l2Named.l0 k l id (i:Int)) l.length _ _ _ (fun i r hi hp h=>?_) (fun i hi hp=>?_) ?_)
 ·simp only[spec_l2Named.f];rfl
 ·refine Ev.step (fun k=>?_) h;simp only[spec_l2Named.l0];rw[if_pos (by omega),if_pos (by omega),if_neg (by simpa using hp),wrap_succ (n:=l.length) hi (by omega)]
 ·refine Ev.ends (fun k=>?_);simp only[spec_l2Named.l0];rw[if_pos (by omega),if_pos (by omega),if_pos (by simpa using hp)]
 ·refine Ev.ends (fun k=>?_);simp only[spec_l2Named.l0];rw[if_neg (by omega)]
theorem hasId_ev (l:List S63) (h:l.length≤1048576) (id:Int):Ev (fun k=>impl_hasId.f k l id) (named l id):=by
 refine Ev.congr (fun k=>?_) (first_loop (fun i k=>impl_hasId.l0 k id l (l.length:Int) (i:Int)) l.length _ _ _ (fun i r hi hp h=>?_) (fun i hi hp=>?_) ?_)
 ·simp only[impl_hasId.f];rfl
 ·refine Ev.step (fun k=>?_) h;simp only[impl_hasId.l0];rw[if_pos (by omega),if_pos (by omega),if_pos (by omega),if_neg (by simpa using hp),wrap_succ (n:=l.length) hi (by omega)]
 ·refine Ev.ends (fun k=>?_);simp only[impl_hasId.l0];rw[if_pos (by omega),if_pos (by omega),if_pos (by omega),if_pos (by simpa using hp)]
 ·refine Ev.ends (fun k=>?_);simp only[impl_hasId.l0];rw[if_neg (by omega)]
theorem named_mem {l:List S63} {id:Int} (h:named l id=true):id ∈ l.map (fun e=>e.f1):=by
 obtain⟨j,_,h2,h3⟩:=firstOr_some _ _ h;simp only[decide_eq_true_eq]at h3;rw[←h3];exact List.mem_map.2 ⟨_,rdE_mem (by omega),rfl⟩
def inodeAt (l:List S80) (id:Int):Int:=firstOr (fun i=>decide ((rd_T80 l (i:Int)).f0=id)) (fun i=>(i:Int)) (-1) 0 l.length
theorem l2Inode_ev (l:List S80) (b c:List S63) (n:Int) (h:l.length≤1048576) (id:Int):Ev (fun k=>spec_l2Inode.f k l b c n id) (inodeAt l id):=by
 refine Ev.congr (fun k=>?_) (first_loop (fun i k=>spec_l2Inode.l0 k id (i:Int) l b c n) l.length _ _ _ (fun i r hi hp h=>?_) (fun i hi hp=>?_) ?_)
 ·simp only[spec_l2Inode.f];rfl
 ·refine Ev.step (fun k=>?_) h;simp only[spec_l2Inode.l0];rw[if_pos (by omega),if_pos (by omega),if_neg (by simpa using hp),wrap_succ (n:=l.length) hi (by omega)]
 ·refine Ev.ends (fun k=>?_);simp only[spec_l2Inode.l0];rw[if_pos (by omega),if_pos (by omega),if_pos (by simpa using hp)]
 ·refine Ev.ends (fun k=>?_);simp only[spec_l2Inode.l0];rw[if_neg (by omega)]
theorem inodeAt_ev (l:List S80) (b c:List S63) (n:Int) (h:l.length≤1048576) (id:Int):Ev (fun k=>impl_inodeAt.f k l b c n id) (inodeAt l id):=by
 refine Ev.congr (fun k=>?_) (first_loop (fun i k=>impl_inodeAt.l0 k id l (l.length:Int) (i:Int)) l.length _ _ _ (fun i r hi hp h=>?_) (fun i hi hp=>?_) ?_)
 ·simp only[impl_inodeAt.f];rfl
 ·refine Ev.step (fun k=>?_) h;simp only[impl_inodeAt.l0];rw[if_pos (by omega),if_pos (by omega),if_pos (by omega),if_neg (by simpa using hp),wrap_succ (n:=l.length) hi (by omega)]
 ·refine Ev.ends (fun k=>?_);simp only[impl_inodeAt.l0];rw[if_pos (by omega),if_pos (by omega),if_pos (by omega),if_pos (by simpa using hp)]
 ·refine Ev.ends (fun k=>?_);simp only[impl_inodeAt.l0];rw[if_neg (by omega)]
theorem bt_rng (s:ByteArray) (i:Int):0≤bt s i∧bt s i≤255:=by
 unfold bt;split
 ·have:=UInt8.toNat_lt (s[i.toNat]'(by assumption));omega
 ·omega
def badSign (c:Int):Bool:=decide (¬((97≤c∧c≤122)∨(48≤c∧c≤57)∨c=45∨c=46))
def nameOk (s:ByteArray):Bool:=decide (1≤(s.size:Int)∧(s.size:Int)≤12)&&firstOr (fun i=>badSign (bt s (i:Int))) (fun _=>false) true 0 s.size
theorem impl_sign (k:Nat) (s:ByteArray) (i:Nat) (hi:i<s.size):impl_nameOk.l0 (k+1) s (i:Int)=impl_nameOk.j1 k s (i:Int) (badSign (bt s (i:Int))):=by
 simp only[impl_nameOk.l0];rw[if_pos (by omega),if_pos (by omega)];generalize bt s (i:Int)=c
 unfold badSign
 (repeat' split)<;>(congr 1;rw[Bool.eq_iff_iff];simp;omega)
theorem impl_nameOk_ev (s:ByteArray) (h:s.size≤9223372036854775807):Ev (fun k=>impl_nameOk.f k s) (nameOk s):=by
 have hn:nameOk s=firstOr (fun i=>badSign (bt s (i:Int))) (fun _=>false) (decide (1≤(s.size:Int)∧(s.size:Int)≤12)) 0 s.size:=by
  unfold nameOk;rw[firstOr_false,firstOr_false,Bool.and_true,Bool.and_comm]
 rw[hn];refine Ev.congr (fun k=>?_) (first_loop (fun i k=>impl_nameOk.l0 k s (i:Int)) s.size _ _ _ (fun i r hi hp h=>?_) (fun i hi hp=>?_) ?_)
 ·simp only[impl_nameOk.f];rfl
 ·refine Ev.step (fun k=>impl_sign k s i hi) (Ev.step (f:=fun k=>impl_nameOk.l0 k s ((i+1:Nat):Int)) (fun k=>?_) h);simp only[impl_nameOk.j1];rw[if_neg (by simpa using hp),wrap_succ (n:=s.size) hi (by omega)]
 ·refine Ev.step (fun k=>impl_sign k s i hi) (Ev.ends (fun k=>?_));simp only[impl_nameOk.j1];rw[if_pos (by simpa using hp)]
 ·refine Ev.ends (fun k=>?_);simp only[impl_nameOk.l0,impl_in.f];rw[if_neg (by omega)];split<;>(simp only[Option.bind_some];congr 1;rw[Bool.eq_iff_iff];simp;omega)
theorem spec_sign (k:Nat) (s:ByteArray) (i:Nat) (hi:i<s.size):spec_l2Name.l0 (k+1) s (i:Int)=spec_l2Name.j1 k s (i:Int) (badSign (bt s (i:Int))):=by
 have hb:=bt_rng s (i:Int);have hw:wrap64 (bt s (i:Int))=bt s (i:Int):=wrap_id (by omega) (by omega);simp only[spec_l2Name.l0,spec_l1In.f,hw];rw[if_pos (by omega),if_pos (by omega)];generalize bt s (i:Int)=c
 unfold badSign;by_cases a1:c≥97<;>by_cases a2:c≤122<;>by_cases a3:c≥48<;>by_cases a4:c≤57<;>by_cases a5:c=45<;>simp only[a1,a2,a3,a4,a5,if_true,if_false,Option.bind_some,decide_true,decide_false,Bool.false_eq_true,reduceIte]<;>first|rfl|(congr 1;done)|(congr 1;rw[Bool.eq_iff_iff];simp;done)|(congr 1;rw[Bool.eq_iff_iff];simp;omega)
theorem spec_nameOk_ev (s:ByteArray) (h:s.size≤9223372036854775807):Ev (fun k=>spec_l2Name.f k s) (nameOk s):=by
 have hl:Ev (fun k=>spec_l2Name.l0 k s 0) (firstOr (fun i=>badSign (bt s (i:Int))) (fun _=>false) true 0 s.size):=by
  refine first_loop (fun i k=>spec_l2Name.l0 k s (i:Int)) s.size _ _ _ (fun i r hi hp h=>?_) (fun i hi hp=>?_) ?_
  ·refine Ev.step (fun k=>spec_sign k s i hi) (Ev.step (f:=fun k=>spec_l2Name.l0 k s ((i+1:Nat):Int)) (fun k=>?_) h);simp only[spec_l2Name.j1];rw[if_neg (by simpa using hp),wrap_succ (n:=s.size) hi (by omega)]
  ·refine Ev.step (fun k=>spec_sign k s i hi) (Ev.ends (fun k=>?_));simp only[spec_l2Name.j1];rw[if_pos (by simpa using hp)]
  ·refine Ev.ends (fun k=>?_);simp only[spec_l2Name.l0];rw[if_neg (by omega)]
 unfold nameOk;by_cases h1:1≤(s.size:Int)∧(s.size:Int)≤12
 ·rw[decide_eq_true h1,Bool.true_and];refine Ev.congr (fun k=>?_) hl;simp only[spec_l2Name.f,spec_l1In.f];rw[if_pos (by omega),Option.bind_some,if_pos (by simpa using h1.2)]
 ·rw[decide_eq_false h1,Bool.false_and];refine Ev.all (fun k=>?_);simp only[spec_l2Name.f,spec_l1In.f];split
  ·simp only[Option.bind_some];rw[if_neg (by simp;omega)]
  ·simp
def entBad (ds:List S80) (l:List S63) (i:Nat):Bool:=
 !nameOk (rd_T63 l (i:Int)).f0 || decide (inodeAt ds (rd_T63 l (i:Int)).f1<0) || (decide (0<i) && !Op.bytesLess (rd_T63 l ((i-1:Nat):Int)).f0.toList (rd_T63 l (i:Int)).f0.toList) || named (l.take i) (rd_T63 l (i:Int)).f1
def entOk (ds:List S80) (l:List S63):Bool:=firstOr (entBad ds l) (fun _=>false) (decide ((l.length:Int)≤30)) 0 l.length
theorem wrap_pred {i n:Nat} (h:i<n) (hn:n≤9223372036854775807) (h0:0<i):wrap64 ((i:Int)-1)=((i-1:Nat):Int):=by unfold wrap64;omega
theorem implNames_ev (ds:List S80) (b c:List S63) (n:Int) (l:List S63) (h0:ds.length≤1048576) (h:l.length≤1048576) (hz:∀e ∈ l,e.f0.size≤9223372036854775807):Ev (fun k=>impl_namesOk.f k ds b c n l) (entOk ds l):=by
 have body:∀i,i<l.length→∃K,∀k,K≤k→impl_namesOk.l0 (k+1) l l (l.length:Int) (i:Int) ds b c n=impl_namesOk.j1 k l l (l.length:Int) (i:Int) (entBad ds l i) ds b c n:=by
  intro i hi;obtain⟨K1,e1⟩:=impl_nameOk_ev (rd_T63 l (i:Int)).f0 (hz _ (rdE_mem hi));obtain⟨K2,e2⟩:=inodeAt_ev ds b c n h0 (rd_T63 l (i:Int)).f1;obtain⟨K3,e3⟩:=hasId_ev (l.take i) (by rw[List.length_take];omega) (rd_T63 l (i:Int)).f1;dsimp only at e1 e2 e3;refine⟨K1+K2+K3,fun k hk=>?_⟩;simp only[impl_namesOk.l0];rw[if_pos (by omega),if_pos (by omega),if_pos (by omega),e1 k (by omega),Option.bind_some];unfold entBad;cases hn:nameOk (rd_T63 l (i:Int)).f0
  ·rw[if_neg (by decide)];rfl
  rw[if_pos rfl,e2 k (by omega),Option.bind_some];by_cases hi2:inodeAt ds (rd_T63 l (i:Int)).f1<0
  ·rw[if_pos hi2];simp[hi2]
  rw[if_neg hi2,decide_eq_false hi2];by_cases hp:(i:Int)>0
  ·have hp':0<i:=by omega
   rw[if_pos hp,wrap_pred hi (by omega) hp',if_pos (by omega),if_pos (by omega),decide_eq_true hp'];cases hb:Op.bytesLess (rd_T63 l ((i-1:Nat):Int)).f0.toList (rd_T63 l (i:Int)).f0.toList
   ·rw[if_neg (by decide)];rfl
   ·rw[if_pos rfl,if_pos (by omega),Int.toNat_natCast,e3 k (by omega),Option.bind_some];rfl
  ·have hp':¬0<i:=by omega
   rw[if_neg hp,if_pos (by omega),Int.toNat_natCast,e3 k (by omega),Option.bind_some,decide_eq_false hp'];rfl
 refine Ev.congr (fun k=>?_) (first_loop (fun i k=>impl_namesOk.l0 k l l (l.length:Int) (i:Int) ds b c n) l.length _ _ _ (fun i r hi hp h=>?_) (fun i hi hp=>?_) ?_)
 ·simp only[impl_namesOk.f];rfl
 ·refine Ev.round (body i hi) (Ev.step (f:=fun k=>impl_namesOk.l0 k l l (l.length:Int) ((i+1:Nat):Int) ds b c n) (fun k=>?_) h);simp only[impl_namesOk.j1];rw[if_neg (by simpa using hp),wrap_succ (n:=l.length) hi (by omega)]
 ·refine Ev.round (body i hi) (Ev.ends (fun k=>?_));simp only[impl_namesOk.j1];rw[if_pos (by simpa using hp)]
 ·refine Ev.ends (fun k=>?_);simp only[impl_namesOk.l0];rw[if_neg (by omega)]
def entBad1 (ds:List S80) (l:List S63) (i:Nat):Bool:=
 !nameOk (rd_T63 l (i:Int)).f0 || decide (inodeAt ds (rd_T63 l (i:Int)).f1<0) || (decide (0<i) && !Op.bytesLess (rd_T63 l ((i-1:Nat):Int)).f0.toList (rd_T63 l (i:Int)).f0.toList)
theorem named_take (l:List S63) (i:Nat) (hi:i≤l.length) (id:Int):named (l.take i) id=firstOr (fun j=>decide ((rd_T63 l (j:Int)).f1=id)) (fun _=>true) false 0 i:=by
 unfold named;rw[List.length_take,Nat.min_eq_left hi];refine firstOr_congr _ _ (fun j _ h2=>?_);rw[rdE_take l i j (by omega)]
theorem specNames_ev (ds:List S80) (b c:List S63) (n:Int) (l:List S63) (h0:ds.length≤1048576) (h:l.length≤1048576) (hz:∀e ∈ l,e.f0.size≤9223372036854775807):Ev (fun k=>spec_l2Entries.f k ds b c n l) (entOk ds l):=by
 have body:∀i,i<l.length→∃K,∀k,K≤k→spec_l2Entries.l0 (k+1) l (i:Int) ds b c n=spec_l2Entries.j1 k l (i:Int) (entBad1 ds l i) ds b c n:=by
  intro i hi;obtain⟨K1,e1⟩:=spec_nameOk_ev (rd_T63 l (i:Int)).f0 (hz _ (rdE_mem hi));obtain⟨K2,e2⟩:=l2Inode_ev ds b c n h0 (rd_T63 l (i:Int)).f1;dsimp only at e1 e2;refine⟨K1+K2,fun k hk=>?_⟩;simp only[spec_l2Entries.l0];rw[if_pos (by omega),if_pos (by omega),e1 k (by omega),Option.bind_some];unfold entBad1;cases hn:nameOk (rd_T63 l (i:Int)).f0
  ·rw[if_neg (by decide)];rfl
  rw[if_pos rfl,e2 k (by omega),Option.bind_some];by_cases hi2:inodeAt ds (rd_T63 l (i:Int)).f1<0
  ·rw[if_pos hi2];simp[hi2]
  rw[if_neg hi2,decide_eq_false hi2];by_cases hp:(i:Int)>0
  ·have hp':0<i:=by omega
   rw[if_pos hp,wrap_pred hi (by omega) hp',if_pos (by omega),if_pos (by omega),decide_eq_true hp'];rfl
  ·have hp':¬0<i:=by omega
   rw[if_neg hp,decide_eq_false hp'];rfl
 have inner:∀i,i<l.length→∀r,Ev (fun k=>spec_l2Entries.l0 k l ((i+1:Nat):Int) ds b c n) r→Ev (fun k=>spec_l2Entries.l1 k l (i:Int) 0 ds b c n) (firstOr (fun j=>decide ((rd_T63 l (j:Int)).f1=(rd_T63 l (i:Int)).f1)) (fun _=>false) r 0 i):=by
  intro i hi r hr;refine first_loop (fun j k=>spec_l2Entries.l1 k l (i:Int) (j:Int) ds b c n) i _ _ _ (fun j r hj hp h=>?_) (fun j hj hp=>?_) ?_
  ·refine Ev.step (fun k=>?_) h;simp only[spec_l2Entries.l1];rw[if_pos (by omega),if_pos (by omega),if_pos (by omega),if_pos (by omega),if_pos (by omega),if_neg (by simpa using hp),wrap_succ (n:=i) hj (by omega)]
  ·refine Ev.ends (fun k=>?_);simp only[spec_l2Entries.l1];rw[if_pos (by omega),if_pos (by omega),if_pos (by omega),if_pos (by omega),if_pos (by omega),if_pos (by simpa using hp)]
  ·refine Ev.step (fun k=>?_) hr;simp only[spec_l2Entries.l1];rw[if_neg (by omega),wrap_succ (n:=l.length) hi (by omega)]
 refine Ev.congr (fun k=>?_) (first_loop (fun i k=>spec_l2Entries.l0 k l (i:Int) ds b c n) l.length _ _ _ (fun i r hi hp h=>?_) (fun i hi hp=>?_) ?_)
 ·simp only[spec_l2Entries.f];rfl
 ·have hq:entBad1 ds l i=false∧named (l.take i) (rd_T63 l (i:Int)).f1=false:=by
   unfold entBad at hp;simpa[entBad1] using hp
  have h2:=inner i hi r h;rw[firstOr_false,←named_take l i (by omega),hq.2]at h2;refine Ev.round (body i hi) (Ev.step (f:=fun k=>spec_l2Entries.l1 k l (i:Int) 0 ds b c n) (fun k=>?_) (by simpa using h2));simp only[spec_l2Entries.j1];rw[if_neg (by rw[hq.1];decide)]
 ·refine Ev.round (body i hi) ?_;cases hb:entBad1 ds l i
  ·have hnm:named (l.take i) (rd_T63 l (i:Int)).f1=true:=by
    have hp':(entBad1 ds l i || named (l.take i) (rd_T63 l (i:Int)).f1)=true:=hp;rw[hb]at hp';simpa using hp'
   have hin:Ev (fun k=>spec_l2Entries.l1 k l (i:Int) 0 ds b c n) false:=by
    rw[named_take l i (by omega)]at hnm;obtain⟨j0,_,hj2,hj3⟩:=firstOr_some _ _ hnm
    have hfin:∀(d j:Nat),j+d=j0+1→(∀m,j≤m→m<j+d→m<i)→Ev (fun k=>spec_l2Entries.l1 k l (i:Int) (j:Int) ds b c n) false∨d=0:=by
     intro d
     induction d with
     |zero=>intro j _ _;exact Or.inr rfl
     |succ d ih=>
      intro j hj hm;left;by_cases hp2:(rd_T63 l (j:Int)).f1=(rd_T63 l (i:Int)).f1
      ·refine Ev.ends (fun k=>?_);simp only[spec_l2Entries.l1];rw[if_pos (by have:=hm j (by omega) (by omega);omega),if_pos (by omega),if_pos (by have:=hm j (by omega) (by omega);omega),if_pos (by omega),if_pos (by omega),if_pos hp2]
      ·rcases ih (j+1) (by omega) (fun m h1 h2=>hm m (by omega) (by omega)) with h|h
       ·refine Ev.step (fun k=>?_) h;simp only[spec_l2Entries.l1];rw[if_pos (by have:=hm j (by omega) (by omega);omega),if_pos (by omega),if_pos (by have:=hm j (by omega) (by omega);omega),if_pos (by omega),if_pos (by omega),if_neg hp2,wrap_succ (n:=i) (hm j (by omega) (by omega)) (by omega)]
       ·have:j=j0:=by omega
        subst this;exact absurd (by simpa using hj3) hp2
    rcases hfin (j0+1) 0 (by omega) (fun m _ h2=>by omega) with h|h
    ·exact h
    ·omega
   refine Ev.step (fun k=>?_) hin;simp only[spec_l2Entries.j1];rw[if_neg (by decide)]
  ·refine Ev.ends (fun k=>?_);simp only[spec_l2Entries.j1]
   first|rw[if_pos rfl]|rw[if_pos trivial]
 ·refine Ev.ends (fun k=>?_);simp only[spec_l2Entries.l0];rw[if_neg (by omega)]
def inoBad (ds:List S80) (ns ss:List S63) (nx:Int) (i:Nat):Bool:=
 !decide (1≤(rd_T80 ds (i:Int)).f0∧(rd_T80 ds (i:Int)).f0≤wrap64 (nx-1)) || !decide (0≤(rd_T80 ds (i:Int)).f2∧(rd_T80 ds (i:Int)).f2≤((rd_T80 ds (i:Int)).f1.length:Int)) || (decide (0<i)&&decide ((rd_T80 ds ((i-1:Nat):Int)).f0≥(rd_T80 ds (i:Int)).f0)) || (!named ns (rd_T80 ds (i:Int)).f0 && !named ss (rd_T80 ds (i:Int)).f0)
def psum (ds:List S80):Nat→Int
 |0=>0
 |i+1=>psum ds i+((rd_T80 ds (i:Int)).f1.length:Int)
theorem psum_le (ds:List S80) (hd:∀x ∈ ds,x.f1.length≤4194304):∀i,i≤ds.length→0≤psum ds i∧psum ds i≤(i:Int)*4194304
 |0,_=>by simp[psum]
 |i+1,h=>by
  have h1:=psum_le ds hd i (by omega);have h2:=hd _ (rdI_mem (show i<ds.length by omega));simp only[psum];omega
def inoOk (ds:List S80) (ns ss:List S63) (nx:Int):Bool:=!firstOr (inoBad ds ns ss nx) (fun _=>true) false 0 ds.length
def diskOk (ds:List S80) (ns ss:List S63) (nx:Int):Bool:=
 decide (1≤nx∧nx≤1000000)&&(inoOk ds ns ss nx&&(decide (psum ds ds.length≤60000)&&(entOk ds ns&&entOk ds ss)))
theorem inB (a b c:Int):(if a≥b then (some (decide (a≤c))) else (some false))=some (decide (b≤a∧a≤c)):=by
 split
 ·congr 1;rw[Bool.eq_iff_iff];simp;omega
 ·congr 1;rw[Bool.eq_iff_iff];simp;omega
theorem implDiskOk_ev (ds:List S80) (ns ss:List S63) (nx:Int) (h0:ds.length≤1048576) (hd:∀x ∈ ds,x.f1.length≤4194304) (h1:ns.length≤1048576) (h2:ss.length≤1048576) (z1:∀e ∈ ns,e.f0.size≤9223372036854775807) (z2:∀e ∈ ss,e.f0.size≤9223372036854775807):Ev (fun k=>impl_DiskOk.f k ds ns ss nx) (diskOk ds ns ss nx):=by
 have body:∀i,i<ds.length→∀s,∃K,∀k,K≤k→impl_DiskOk.l0 (k+1) s ds (ds.length:Int) (i:Int) ds ns ss nx=impl_DiskOk.j1 k s ds (ds.length:Int) (i:Int) (inoBad ds ns ss nx i) ds ns ss nx (rd_T80 ds (i:Int)).f0 (rd_T80 ds (i:Int)).f1 (rd_T80 ds (i:Int)).f2:=by
  intro i hi s;obtain⟨K1,e1⟩:=hasId_ev ns h1 (rd_T80 ds (i:Int)).f0;obtain⟨K2,e2⟩:=hasId_ev ss h2 (rd_T80 ds (i:Int)).f0;dsimp only at e1 e2;refine⟨K1+K2,fun k hk=>?_⟩;simp only[impl_DiskOk.l0,impl_in.f,inB];rw[if_pos (by omega),if_pos (by omega),if_pos (by omega),Option.bind_some];unfold inoBad;by_cases c1:1≤(rd_T80 ds (i:Int)).f0∧(rd_T80 ds (i:Int)).f0≤wrap64 (nx-1)
  case neg=>rw[decide_eq_false c1,if_neg (by decide)];rfl
  rw[decide_eq_true c1,if_pos rfl,Option.bind_some];by_cases c2:0≤(rd_T80 ds (i:Int)).f2∧(rd_T80 ds (i:Int)).f2≤((rd_T80 ds (i:Int)).f1.length:Int)
  case neg=>rw[decide_eq_false c2,if_neg (by decide)];rfl
  rw[decide_eq_true c2,if_pos rfl];by_cases hp:(i:Int)>0
  ·have hp':0<i:=by omega
   rw[if_pos hp,wrap_pred hi (by omega) hp',if_pos (by omega),if_pos (by omega),decide_eq_true hp'];by_cases c3:(rd_T80 ds ((i-1:Nat):Int)).f0≥(rd_T80 ds (i:Int)).f0
   ·rw[if_pos c3,decide_eq_true c3];rfl
   rw[if_neg c3,decide_eq_false c3,e1 k (by omega),Option.bind_some];cases hn:named ns (rd_T80 ds (i:Int)).f0
   ·rw[if_neg (by decide),e2 k (by omega),Option.bind_some];rfl
   ·rw[if_pos rfl];rfl
  ·have hp':¬0<i:=by omega
   rw[if_neg hp,decide_eq_false hp',e1 k (by omega),Option.bind_some];cases hn:named ns (rd_T80 ds (i:Int)).f0
   ·rw[if_neg (by decide),e2 k (by omega),Option.bind_some];rfl
   ·rw[if_pos rfl];rfl
 have hv:diskOk ds ns ss nx=firstOr (inoBad ds ns ss nx) (fun _=>false) (decide (1≤nx∧nx≤1000000)&&(decide (psum ds ds.length≤60000)&&(entOk ds ns&&entOk ds ss))) 0 ds.length:=by
  rw[firstOr_false];unfold diskOk inoOk;cases decide (1≤nx∧nx≤1000000)<;>simp
 rw[hv];have pl:=psum_le ds hd;refine Ev.congr (fun k=>?_) (first_loop (fun i k=>impl_DiskOk.l0 k (psum ds i) ds (ds.length:Int) (i:Int) ds ns ss nx) ds.length _ _ _ (fun i r hi hp h=>?_) (fun i hi hp=>?_) ?_)
 ·simp only[impl_DiskOk.f];rfl
 ·refine Ev.round (body i hi _) (Ev.step (f:=fun k=>impl_DiskOk.l0 k (psum ds (i+1)) ds (ds.length:Int) ((i+1:Nat):Int) ds ns ss nx) (fun k=>?_) h);have b1:=pl (i+1) (by omega);simp only[psum]at b1;simp only[impl_DiskOk.j1,psum];rw[if_neg (by simpa using hp),wrap_succ (n:=ds.length) hi (by omega),wrap_id (by omega) (by omega)]
 ·refine Ev.round (body i hi _) (Ev.ends (fun k=>?_));simp only[impl_DiskOk.j1];rw[if_pos (by simpa using hp)]
 ·obtain⟨K1,e1⟩:=implNames_ev ds ns ss nx ns h0 h1 z1;obtain⟨K2,e2⟩:=implNames_ev ds ns ss nx ss h0 h2 z2;dsimp only at e1 e2;refine Ev.round (f:=fun _=>some _) ⟨K1+K2,fun k hk=>?_⟩ (Ev.now _);simp only[impl_DiskOk.l0,impl_in.f,inB];rw[if_neg (by omega),Option.bind_some];by_cases c1:1≤nx∧nx≤1000000
  case neg=>rw[decide_eq_false c1,if_neg (by decide)];rfl
  rw[decide_eq_true c1,if_pos rfl];by_cases c2:psum ds ds.length≤60000
  case neg=>rw[if_neg c2,decide_eq_false c2];rfl
  rw[if_pos c2,decide_eq_true c2,e1 k (by omega),Option.bind_some];cases entOk ds ns
  ·rw[if_neg (by decide)];rfl
  ·rw[if_pos rfl,e2 k (by omega),Option.bind_some];rfl
theorem pigeon:∀(n:Nat) (f:Nat→Int) (m:List Int),(∀i j,i<j→j<n→f i≠f j)→(∀i,i<n→f i ∈ m)→n≤m.length
 |0,_,_,_,_=>Nat.zero_le _
 |n+1,f,m,hne,hm=>by
  have hn:=hm n (by omega);have h:=pigeon n f (m.erase (f n)) (fun i j h1 h2=>hne i j h1 (by omega)) (fun i hi=>(List.mem_erase_of_ne (hne i n hi (by omega))).2 (hm i (by omega)));rw[List.length_erase_of_mem hn]at h;have:0<m.length:=List.length_pos_of_mem hn;omega
theorem entOk_len {ds:List S80} {l:List S63} (h:entOk ds l=true):l.length≤30:=by
 unfold entOk at h;rw[firstOr_false,Bool.and_eq_true,decide_eq_true_eq]at h;omega
theorem inoOk_at {ds:List S80} {ns ss:List S63} {nx:Int} (h:inoOk ds ns ss nx=true) (i:Nat) (hi:i<ds.length):inoBad ds ns ss nx i=false:=
 firstOr_none _ _ (by simpa[inoOk] using h) i (by omega) (by omega)
theorem inoBad_lt {ds:List S80} {ns ss:List S63} {nx:Int} {i:Nat} (h:inoBad ds ns ss nx i=false) (hi:0<i):(rd_T80 ds ((i-1:Nat):Int)).f0<(rd_T80 ds (i:Int)).f0:=by
 unfold inoBad at h;rw[Bool.or_eq_false_iff,Bool.or_eq_false_iff,decide_eq_true hi,Bool.true_and,decide_eq_false_iff_not]at h;omega
theorem inoOk_lt {ds:List S80} {ns ss:List S63} {nx:Int} (h:inoOk ds ns ss nx=true):∀(d i:Nat),i+d+1<ds.length→(rd_T80 ds (i:Int)).f0<(rd_T80 ds ((i+d+1:Nat):Int)).f0
 |0,i,hi=>inoBad_lt (inoOk_at h (i+1) (by omega)) (by omega)
 |d+1,i,hi=>by
  have h1:=inoOk_lt h d i (by omega);have h2:=inoBad_lt (inoOk_at h (i+d+1+1) (by omega)) (by omega);rw[show i+d+1+1-1=i+d+1 from rfl]at h2;rw[show i+(d+1)+1=i+d+1+1 from by omega];omega
theorem few {ds:List S80} {ns ss:List S63} {nx:Int} (h:inoOk ds ns ss nx=true) (h1:entOk ds ns=true) (h2:entOk ds ss=true):ds.length≤60:=by
 have l1:=entOk_len h1;have l2:=entOk_len h2
 have hp:=pigeon ds.length (fun i=>(rd_T80 ds (i:Int)).f0) (ns.map (fun e=>e.f1)++ss.map (fun e=>e.f1)) (fun i j hij hj=>by
  have:=inoOk_lt h (j-i-1) i (by omega);have e:i+(j-i-1)+1=j:=by omega
  rw[e]at this;show (rd_T80 ds (i:Int)).f0≠(rd_T80 ds (j:Int)).f0;omega) (fun i hi=>by
  have hb:=inoOk_at h i hi;unfold inoBad at hb;rw[Bool.or_eq_false_iff,Bool.and_eq_false_iff]at hb
  rcases hb.2 with hb|hb
  ·exact List.mem_append_left _ (named_mem (by simpa using hb))
  ·exact List.mem_append_right _ (named_mem (by simpa using hb)))
 rw[List.length_append,List.length_map,List.length_map]at hp;omega
theorem specDiskOk_ev (ds:List S80) (ns ss:List S63) (nx:Int) (h0:ds.length≤1048576) (hd:∀x ∈ ds,x.f1.length≤4194304) (h1:ns.length≤1048576) (h2:ss.length≤1048576) (z1:∀e ∈ ns,e.f0.size≤9223372036854775807) (z2:∀e ∈ ss,e.f0.size≤9223372036854775807):Ev (fun k=>spec_DiskOk.f k ds ns ss nx) (diskOk ds ns ss nx):=by
 have body:∀i,i<ds.length→∀s,∃K,∀k,K≤k→spec_DiskOk.l0 (k+1) s (i:Int) ds ns ss nx=spec_DiskOk.j2 k s (i:Int) (inoBad ds ns ss nx i) ds ns ss nx (rd_T80 ds (i:Int)).f0 (rd_T80 ds (i:Int)).f1 (rd_T80 ds (i:Int)).f2:=by
  intro i hi s;obtain⟨K1,e1⟩:=l2Named_ev ns h1 (rd_T80 ds (i:Int)).f0;obtain⟨K2,e2⟩:=l2Named_ev ss h2 (rd_T80 ds (i:Int)).f0;dsimp only at e1 e2;refine⟨K1+K2,fun k hk=>?_⟩;simp only[spec_DiskOk.l0,spec_l1In.f,inB];rw[if_pos (by omega),if_pos (by omega),Option.bind_some];unfold inoBad;by_cases c1:1≤(rd_T80 ds (i:Int)).f0∧(rd_T80 ds (i:Int)).f0≤wrap64 (nx-1)
  case neg=>rw[decide_eq_false c1,if_neg (by decide)];rfl
  rw[decide_eq_true c1,if_pos rfl,Option.bind_some]
  have tail:(if decide (0≤(rd_T80 ds (i:Int)).f2∧(rd_T80 ds (i:Int)).f2≤((rd_T80 ds (i:Int)).f1.length:Int))=true then ((spec_l2Named.f k ns (rd_T80 ds (i:Int)).f0).bind fun t152=>(if t152=true then (spec_DiskOk.j2 k s (i:Int) false ds ns ss nx (rd_T80 ds (i:Int)).f0 (rd_T80 ds (i:Int)).f1 (rd_T80 ds (i:Int)).f2) else ((spec_l2Named.f k ss (rd_T80 ds (i:Int)).f0).bind fun t153=>(spec_DiskOk.j2 k s (i:Int) (!t153) ds ns ss nx (rd_T80 ds (i:Int)).f0 (rd_T80 ds (i:Int)).f1 (rd_T80 ds (i:Int)).f2)))) else (spec_DiskOk.j2 k s (i:Int) true ds ns ss nx (rd_T80 ds (i:Int)).f0 (rd_T80 ds (i:Int)).f1 (rd_T80 ds (i:Int)).f2))=spec_DiskOk.j2 k s (i:Int) (!decide (0≤(rd_T80 ds (i:Int)).f2∧(rd_T80 ds (i:Int)).f2≤((rd_T80 ds (i:Int)).f1.length:Int)) || (!named ns (rd_T80 ds (i:Int)).f0 && !named ss (rd_T80 ds (i:Int)).f0)) ds ns ss nx (rd_T80 ds (i:Int)).f0 (rd_T80 ds (i:Int)).f1 (rd_T80 ds (i:Int)).f2:=by
   by_cases c2:0≤(rd_T80 ds (i:Int)).f2∧(rd_T80 ds (i:Int)).f2≤((rd_T80 ds (i:Int)).f1.length:Int)
   case neg=>rw[decide_eq_false c2,if_neg (by decide)];rfl
   rw[decide_eq_true c2,if_pos rfl,e1 k (by omega),Option.bind_some];cases hn:named ns (rd_T80 ds (i:Int)).f0
   ·rw[if_neg (by decide),e2 k (by omega),Option.bind_some];rfl
   ·rw[if_pos rfl];rfl
  by_cases hp:(i:Int)>0
  ·have hp':0<i:=by omega
   rw[if_pos hp,wrap_pred hi (by omega) hp',if_pos (by omega),if_pos (by omega),decide_eq_true hp'];by_cases c3:(rd_T80 ds ((i-1:Nat):Int)).f0≥(rd_T80 ds (i:Int)).f0
   ·rw[if_pos c3,decide_eq_true c3];simp
   rw[if_neg c3,decide_eq_false c3,tail];simp
  ·have hp':¬0<i:=by omega
   rw[if_neg hp,decide_eq_false hp',tail];simp
 have hv:diskOk ds ns ss nx=(decide (1≤nx∧nx≤1000000)&&(!decide ((ds.length:Int)>60)&&firstOr (inoBad ds ns ss nx) (fun _=>false) (decide (psum ds ds.length≤60000)&&(entOk ds ns&&entOk ds ss)) 0 ds.length)):=by
  rw[firstOr_false];unfold diskOk;rw[show (!firstOr (inoBad ds ns ss nx) (fun _=>true) false 0 ds.length)=inoOk ds ns ss nx from rfl];cases ha:inoOk ds ns ss nx<;>cases hb:entOk ds ns<;>cases hc:entOk ds ss<;>first|(have h60:=few ha hb hc;rw[decide_eq_false (show ¬((ds.length:Int)>60) by omega)];simp;done)|simp
 rw[hv];have pl:=psum_le ds hd
 have loop:Ev (fun k=>spec_DiskOk.l0 k 0 0 ds ns ss nx) (firstOr (inoBad ds ns ss nx) (fun _=>false) (decide (psum ds ds.length≤60000)&&(entOk ds ns&&entOk ds ss)) 0 ds.length):=by
  refine first_loop (fun i k=>spec_DiskOk.l0 k (psum ds i) (i:Int) ds ns ss nx) ds.length _ _ _ (fun i r hi hp h=>?_) (fun i hi hp=>?_) ?_
  ·refine Ev.round (body i hi _) (Ev.step (f:=fun k=>spec_DiskOk.l0 k (psum ds (i+1)) ((i+1:Nat):Int) ds ns ss nx) (fun k=>?_) h);have b1:=pl (i+1) (by omega);simp only[psum]at b1;simp only[spec_DiskOk.j2,psum];rw[if_neg (by simpa using hp),wrap_succ (n:=ds.length) hi (by omega),wrap_id (by omega) (by omega)]
  ·refine Ev.round (body i hi _) (Ev.ends (fun k=>?_));simp only[spec_DiskOk.j2];rw[if_pos (by simpa using hp)]
  ·obtain⟨K1,e1⟩:=specNames_ev ds ns ss nx ns h0 h1 z1;obtain⟨K2,e2⟩:=specNames_ev ds ns ss nx ss h0 h2 z2;dsimp only at e1 e2;refine Ev.round (f:=fun _=>some _) ⟨K1+K2,fun k hk=>?_⟩ (Ev.now _);simp only[spec_DiskOk.l0];rw[if_neg (by omega)];by_cases c2:psum ds ds.length≤60000
   case neg=>rw[if_neg c2,decide_eq_false c2];rfl
   rw[if_pos c2,decide_eq_true c2,e1 k (by omega),Option.bind_some];cases entOk ds ns
   ·rw[if_neg (by decide)];rfl
   ·rw[if_pos rfl,e2 k (by omega),Option.bind_some];rfl
 by_cases c1:1≤nx∧nx≤1000000
 ·rw[decide_eq_true c1,Bool.true_and];by_cases c2:(ds.length:Int)>60
  ·rw[decide_eq_true c2];refine Ev.ends (fun k=>?_);simp only[spec_DiskOk.f,spec_l1In.f,inB];rw[decide_eq_true c1,Option.bind_some,if_pos rfl,decide_eq_true c2];simp only[spec_DiskOk.j0];rfl
  ·rw[decide_eq_false c2];refine Ev.step (fun k=>?_) loop;simp only[spec_DiskOk.f,spec_l1In.f,inB];rw[decide_eq_true c1,Option.bind_some,if_pos rfl,decide_eq_false c2];simp only[spec_DiskOk.j0];rw[if_neg (by decide)]
 ·rw[decide_eq_false c1,Bool.false_and];refine Ev.ends (fun k=>?_);simp only[spec_DiskOk.f,spec_l1In.f,inB];rw[decide_eq_false c1,Option.bind_some,if_neg (by decide)];simp only[spec_DiskOk.j0];rfl
theorem firstOr_split (p:Nat→Bool):∀(d i:Nat),(∃j,i≤j∧j<i+d∧p j=true∧∀ {ρ:Type} (stop:Nat→ρ) (e:ρ),firstOr p stop e i d=stop j)∨((∀j,i≤j→j<i+d→p j=false)∧∀ {ρ:Type} (stop:Nat→ρ) (e:ρ),firstOr p stop e i d=e)
 |0,i=>Or.inr ⟨fun j h1 h2=>by omega,fun _ _=>rfl⟩
 |d+1,i=>by
  by_cases hp:p i=true
  ·exact Or.inl ⟨i,by omega,by omega,hp,fun stop e=>by simp only[firstOr];rw[if_pos hp]⟩
  ·rcases firstOr_split p d (i+1) with ⟨j,h1,h2,h3,h4⟩|⟨h1,h2⟩
   ·exact Or.inl ⟨j,by omega,by omega,h3,fun stop e=>by simp only[firstOr];rw[if_neg hp];exact h4 stop e⟩
   ·refine Or.inr ⟨fun j a b=>?_,fun stop e=>by simp only[firstOr];rw[if_neg hp];exact h2 stop e⟩;by_cases hj:j=i
    ·subst hj;simpa using hp
    ·exact h1 j (by omega) (by omega)
theorem toList_same {a b:ByteArray} (h:a.toList=b.toList):a=b:=by
 rw[ByteArray.toList_eq,ByteArray.toList_eq]at h;exact ByteArray.ext (Array.toList_inj.1 h)
theorem entOk_at {ds:List S80} {l:List S63} (h:entOk ds l=true) (i:Nat) (hi:i<l.length):nameOk (rd_T63 l (i:Int)).f0=true∧0≤inodeAt ds (rd_T63 l (i:Int)).f1:=by
 unfold entOk at h;rw[firstOr_false,Bool.and_eq_true]at h;have hb:=firstOr_none _ _ (by simpa using h.1) i (by omega) (by omega);unfold entBad at hb;rw[Bool.or_eq_false_iff,Bool.or_eq_false_iff,Bool.or_eq_false_iff]at hb;obtain⟨⟨⟨h1,h2⟩,_⟩,_⟩:=hb;refine⟨by simpa using h1,?_⟩;have:=of_decide_eq_false h2;omega
theorem inodeAt_is {ds:List S80} {id:Int} (h:0≤inodeAt ds id):∃j,j<ds.length∧inodeAt ds id=(j:Int)∧(rd_T80 ds (j:Int)).f0=id:=by
 unfold inodeAt at h ⊢
 rcases firstOr_split (fun i=>decide ((rd_T80 ds (i:Int)).f0=id)) ds.length 0 with ⟨j,_,h2,h3,h4⟩|⟨_,h2⟩
 ·exact⟨j,by omega,h4 _ _,by simpa using h3⟩
 ·rw[h2]at h;omega
theorem inoBad_pos {ds:List S80} {ns ss:List S63} {nx:Int} {i:Nat} (h:inoBad ds ns ss nx i=false):1≤(rd_T80 ds (i:Int)).f0∧0≤(rd_T80 ds (i:Int)).f2∧(rd_T80 ds (i:Int)).f2≤((rd_T80 ds (i:Int)).f1.length:Int):=by
 unfold inoBad at h;rw[Bool.or_eq_false_iff,Bool.or_eq_false_iff,Bool.or_eq_false_iff]at h;obtain⟨⟨⟨h1,h2⟩,_⟩,_⟩:=h;have a:=of_decide_eq_true (by simpa using h1:decide (1≤(rd_T80 ds (i:Int)).f0∧(rd_T80 ds (i:Int)).f0≤wrap64 (nx-1))=true);have b:=of_decide_eq_true (by simpa using h2:decide (0≤(rd_T80 ds (i:Int)).f2∧(rd_T80 ds (i:Int)).f2≤((rd_T80 ds (i:Int)).f1.length:Int))=true);exact⟨a.1,b⟩
theorem diskOk_parts {ds:List S80} {ns ss:List S63} {nx:Int} (h:diskOk ds ns ss nx=true):inoOk ds ns ss nx=true∧entOk ds ns=true∧entOk ds ss=true:=by
 unfold diskOk at h;simp only[Bool.and_eq_true]at h;exact⟨h.2.1,h.2.2.2.1,h.2.2.2.2⟩
theorem filt_loop {β γ:Type} (L:Nat→List β→Nat→Option γ) (n:Nat) (p:Nat→Bool) (h:Nat→β) (fin:List β→γ)
 (hs1:∀(i:Nat) (out:List β) (r:γ),i<n→out.length≤i→p i=true→Ev (fun k=>L k (out++[h i]) (i+1)) r→Ev (fun k=>L k out i) r)
 (hs0:∀(i:Nat) (out:List β) (r:γ),i<n→out.length≤i→p i=false→Ev (fun k=>L k out (i+1)) r→Ev (fun k=>L k out i) r)
 (he:∀out:List β,out.length≤n→Ev (fun k=>L k out n) (fin out)):Ev (fun k=>L k [] 0) (fin (((List.range n).filter p).map h)):=by
 have key:∀(d i:Nat),i+d=n→Ev (fun k=>L k (((List.range i).filter p).map h) i) (fin (((List.range n).filter p).map h)):=by
  intro d
  induction d with
  |zero=>
   intro i hi;have:i=n:=by omega
   subst this;exact he _ (by rw[List.length_map];exact Nat.le_trans (List.length_filter_le _ _) (by simp))
  |succ d ih=>
   intro i hi;have hl:(((List.range i).filter p).map h).length≤i:=by rw[List.length_map];exact Nat.le_trans (List.length_filter_le _ _) (by simp)
   have hn:=ih (i+1) (by omega);rw[List.range_succ,List.filter_append,List.map_append]at hn;cases hp:p i
   ·refine hs0 i _ _ (by omega) hl hp ?_;simpa[hp] using hn
   ·refine hs1 i _ _ (by omega) hl hp ?_;simpa[hp] using hn
 exact key n 0 (by omega)
theorem range_map_rd (ds:List S80):(List.range ds.length).map (fun (i:Nat)=>rd_T80 ds (i:Int))=ds:=by
 have:=range_map_get ds (fun x=>x) z80;rw[List.map_id']at this;exact this
theorem l2Copy_ev (ds:List S80) (ns ss:List S63) (nx:Int) (h0:ds.length≤1048576) (hd:∀x ∈ ds,x.f1.length≤4194304) (h1:ns.length≤1048576) (h2:ss.length≤1048576):Ev (fun k=>spec_l2Copy.f k ds ns ss nx) (ds,ns,ss,nx):=by
 have loop:=filt_loop (fun k out i=>spec_l2Copy.l0 k (i:Int) ds ns ss nx out ns ss nx) ds.length (fun _=>true) (fun (i:Nat)=>rd_T80 ds (i:Int)) (fun out=>(out,ns,ss,nx)) (fun i out r hi ho _ h=>?_) (fun i out r hi ho hp h=>by simp at hp) (fun out ho=>?_)
 ·rw[List.filter_eq_self.2 (fun _ _=>rfl),range_map_rd]at loop;refine Ev.congr (fun k=>?_) loop;simp only[spec_l2Copy.f,Option.bind_some,List.nil_append,List.length_nil];rw[if_pos (by omega),if_pos (by omega)];rfl
 ·have hm:=hd _ (rdI_mem hi);refine Ev.step (fun k=>?_) h;simp only[spec_l2Copy.l0,Option.bind_some,List.nil_append,List.length_nil];rw[if_pos (by omega),if_pos (by omega),if_pos (by omega),if_pos (by omega),wrap_succ (n:=ds.length) hi (by omega)]
 ·refine Ev.ends (fun k=>?_);simp only[spec_l2Copy.l0];rw[if_neg (by omega)]
theorem copyDisk_ev (ds:List S80) (ns ss:List S63) (nx:Int) (h0:ds.length≤1048576) (hd:∀x ∈ ds,x.f1.length≤4194304) (h1:ns.length≤1048576) (h2:ss.length≤1048576):Ev (fun k=>impl_copyDisk.f k ds ns ss nx) (ds,ns,ss,nx):=by
 have loop:=filt_loop (fun k out i=>impl_copyDisk.l0 k ds (ds.length:Int) (i:Int) out ns ss nx) ds.length (fun _=>true) (fun (i:Nat)=>rd_T80 ds (i:Int)) (fun out=>(out,ns,ss,nx)) (fun i out r hi ho _ h=>?_) (fun i out r hi ho hp h=>by simp at hp) (fun out ho=>?_)
 ·rw[List.filter_eq_self.2 (fun _ _=>rfl),range_map_rd]at loop;refine Ev.congr (fun k=>?_) loop;simp only[impl_copyDisk.f,List.nil_append,List.length_nil];rw[if_pos (by omega),if_pos (by omega)];rfl
 ·have hm:=hd _ (rdI_mem hi);refine Ev.step (fun k=>?_) h;simp only[impl_copyDisk.l0,impl_copyBytes.f,List.nil_append,List.length_nil];rw[if_pos (by omega),if_pos (by omega),if_pos (by omega),if_pos (by omega),Option.bind_some,if_pos (by omega),wrap_succ (n:=ds.length) hi (by omega)]
 ·refine Ev.ends (fun k=>?_);simp only[impl_copyDisk.l0];rw[if_neg (by omega)]
theorem filt_loop2 {β γ:Type} (L:Nat→List β→Nat→Option γ) (n:Nat) (p:Nat→Bool) (h:Nat→β) (r:γ)
 (hs1:∀(i:Nat) (out:List β) (r:γ),i<n→out.length≤i→p i=true→Ev (fun k=>L k (out++[h i]) (i+1)) r→Ev (fun k=>L k out i) r)
 (hs0:∀(i:Nat) (out:List β) (r:γ),i<n→out.length≤i→p i=false→Ev (fun k=>L k out (i+1)) r→Ev (fun k=>L k out i) r)
 (he:Ev (fun k=>L k (((List.range n).filter p).map h) n) r):Ev (fun k=>L k [] 0) r:=by
 have key:∀(d i:Nat),i+d=n→Ev (fun k=>L k (((List.range i).filter p).map h) i) r:=by
  intro d
  induction d with
  |zero=>
   intro i hi;have:i=n:=by omega
   subst this;exact he
  |succ d ih=>
   intro i hi;have hl:(((List.range i).filter p).map h).length≤i:=by rw[List.length_map];exact Nat.le_trans (List.length_filter_le _ _) (by simp)
   have hn:=ih (i+1) (by omega);rw[List.range_succ,List.filter_append,List.map_append]at hn;cases hp:p i
   ·refine hs0 i _ _ (by omega) hl hp ?_;simpa[hp] using hn
   ·refine hs1 i _ _ (by omega) hl hp ?_;simpa[hp] using hn
 exact key n 0 (by omega)
def kept (ds:List S80) (ns ss:List S63):List S80:=((List.range ds.length).filter (fun (i:Nat)=>named ns (rd_T80 ds (i:Int)).f0 || named ss (rd_T80 ds (i:Int)).f0)).map (fun (i:Nat)=>rd_T80 ds (i:Int))
theorem kept_length (ds:List S80) (ns ss:List S63):(kept ds ns ss).length≤ds.length:=by
 unfold kept;rw[List.length_map];exact Nat.le_trans (List.length_filter_le _ _) (by simp)
theorem kept_mem {ds:List S80} {ns ss:List S63} {x:S80} (h:x ∈ kept ds ns ss):x ∈ ds:=by
 obtain⟨i,hi,rfl⟩:=List.mem_map.1 h;exact rdI_mem (by simpa using (List.mem_filter.1 hi).1)
abbrev DiskR:=List S80 × List S63 × List S63 × Int × Int
def endsOf (d0:List S80) (n0 s0:List S63) (x0:Int) (ds:List S80) (ns ss:List S63) (nx:Int):DiskR:=
 if diskOk (kept ds ns ss) ns ss nx=true then (kept ds ns ss,ns,ss,nx,0) else (d0,n0,s0,x0,4)
structure Small (ds:List S80) (ns ss:List S63):Prop where
 h0:ds.length≤1048576
 hd:∀x ∈ ds,x.f1.length≤4194304
 h1:ns.length≤1048576
 h2:ss.length≤1048576
 z1:∀e ∈ ns,e.f0.size≤9223372036854775807
 z2:∀e ∈ ss,e.f0.size≤9223372036854775807
theorem Small.kept {ds:List S80} {ns ss:List S63} (h:Small ds ns ss):Small (kept ds ns ss) ns ss:=⟨Nat.le_trans (kept_length ds ns ss) h.h0,fun x hx=>h.hd x (kept_mem hx),h.h1,h.h2,h.z1,h.z2⟩
theorem Small.spec {ds:List S80} {ns ss:List S63} (h:Small ds ns ss) (nx:Int):Ev (fun k=>spec_DiskOk.f k ds ns ss nx) (diskOk ds ns ss nx):=specDiskOk_ev ds ns ss nx h.h0 h.hd h.h1 h.h2 h.z1 h.z2
theorem Small.impl {ds:List S80} {ns ss:List S63} (h:Small ds ns ss) (nx:Int):Ev (fun k=>impl_DiskOk.f k ds ns ss nx) (diskOk ds ns ss nx):=implDiskOk_ev ds ns ss nx h.h0 h.hd h.h1 h.h2 h.z1 h.z2
theorem Small.copyS {ds:List S80} {ns ss:List S63} (h:Small ds ns ss) (nx:Int):Ev (fun k=>spec_l2Copy.f k ds ns ss nx) (ds,ns,ss,nx):=l2Copy_ev ds ns ss nx h.h0 h.hd h.h1 h.h2
theorem Small.copyI {ds:List S80} {ns ss:List S63} (h:Small ds ns ss) (nx:Int):Ev (fun k=>impl_copyDisk.f k ds ns ss nx) (ds,ns,ss,nx):=copyDisk_ev ds ns ss nx h.h0 h.hd h.h1 h.h2
theorem endsOf_small {d0:List S80} {n0 s0:List S63} {x0:Int} {ds:List S80} {ns ss:List S63} {nx:Int} (h0:Small d0 n0 s0) (h:Small ds ns ss):Small (endsOf d0 n0 s0 x0 ds ns ss nx).1 (endsOf d0 n0 s0 x0 ds ns ss nx).2.1 (endsOf d0 n0 s0 x0 ds ns ss nx).2.2.1:=by
 unfold endsOf;split
 ·exact h.kept
 ·exact h0
theorem implEnds_ev (mdo:Nat→List S80→List S63→List S63→Int→Option DiskR) (d0:List S80) (n0 s0:List S63) (x0:Int) (ds:List S80) (ns ss:List S63) (nx:Int) (e0:List S80) (h0:Small d0 n0 s0) (h:Small ds ns ss):Ev (fun k=>impl_change.l1 mdo k [] ds (ds.length:Int) 0 d0 n0 s0 x0 e0 ns ss nx) (endsOf d0 n0 s0 x0 ds ns ss nx):=by
 refine filt_loop2 (fun k out i=>impl_change.l1 mdo k out ds (ds.length:Int) (i:Int) d0 n0 s0 x0 e0 ns ss nx) ds.length (fun (i:Nat)=>named ns (rd_T80 ds (i:Int)).f0 || named ss (rd_T80 ds (i:Int)).f0) (fun (i:Nat)=>rd_T80 ds (i:Int)) _ (fun i out r hi ho hp hh=>?_) (fun i out r hi ho hp hh=>?_) ?_
 ·obtain⟨K,e⟩:=hasId_ev ns h.h1 (rd_T80 ds (i:Int)).f0;obtain⟨K2,e2⟩:=hasId_ev ss h.h2 (rd_T80 ds (i:Int)).f0;dsimp only at e e2;have hb:=h.h0;refine Ev.round ⟨K+K2,fun k hk=>?_⟩ hh;simp only[impl_change.l1];rw[if_pos (by omega),if_pos (by omega),if_pos (by omega),e k (by omega),Option.bind_some];cases hq:named ns (rd_T80 ds (i:Int)).f0
  ·rw[hq,Bool.false_or]at hp;rw[if_neg (by decide),e2 k (by omega),Option.bind_some,hp,if_pos rfl,if_pos (by omega),wrap_succ (n:=ds.length) hi (by omega)]
  ·rw[if_pos rfl,if_pos (by omega),wrap_succ (n:=ds.length) hi (by omega)]
 ·obtain⟨K,e⟩:=hasId_ev ns h.h1 (rd_T80 ds (i:Int)).f0;obtain⟨K2,e2⟩:=hasId_ev ss h.h2 (rd_T80 ds (i:Int)).f0;dsimp only at e e2;rw[Bool.or_eq_false_iff]at hp;have hb:=h.h0;refine Ev.round ⟨K+K2,fun k hk=>?_⟩ hh;simp only[impl_change.l1];rw[if_pos (by omega),if_pos (by omega),if_pos (by omega),e k (by omega),Option.bind_some,hp.1,if_neg (by decide),e2 k (by omega),Option.bind_some,hp.2,if_neg (by decide),wrap_succ (n:=ds.length) hi (by omega)]
 ·refine Ev.step (f:=fun k=>(impl_DiskOk.f k (kept ds ns ss) ns ss nx).bind fun t=>(if t=true then (some (kept ds ns ss,ns,ss,nx,0)) else ((impl_copyDisk.f k d0 n0 s0 x0).bind fun bt=>(some (bt.1,bt.2.1,bt.2.2.1,bt.2.2.2,4))))) (fun k=>?_) ?_
  ·simp only[impl_change.l1];rw[if_neg (by omega)];rfl
  ·refine Ev.bind' (h.kept.impl nx) ?_;unfold endsOf;cases diskOk (kept ds ns ss) ns ss nx
   ·simp only[Bool.false_eq_true,if_false];exact Ev.bind' (h0.copyI x0) (Ev.now _)
   ·simp only[if_true];exact Ev.now _
def nameAt (l:List S63) (nm:ByteArray):Int:=firstOr (fun i=>decide ((rd_T63 l (i:Int)).f0.toList=nm.toList)) (fun i=>(i:Int)) (-1) 0 l.length
def idOf (l:List S63) (nm:ByteArray):Int:=firstOr (fun i=>decide ((rd_T63 l (i:Int)).f0.toList=nm.toList)) (fun i=>(rd_T63 l (i:Int)).f1) 0 0 l.length
theorem idOf_ev (ds:List S80) (l c:List S63) (n:Int) (nm:ByteArray) (h:l.length≤1048576):Ev (fun k=>impl_idOf.f k ds l c n nm) (idOf l nm):=by
 refine Ev.congr (fun k=>?_) (first_loop (fun i k=>impl_idOf.l0 k nm l (l.length:Int) (i:Int)) l.length _ _ _ (fun i r hi hp h=>?_) (fun i hi hp=>?_) ?_)
 ·simp only[impl_idOf.f];rfl
 ·refine Ev.step (fun k=>?_) h;simp only[impl_idOf.l0];rw[if_pos (by omega),if_pos (by omega),if_pos (by omega),if_neg (by simpa using hp),wrap_succ (n:=l.length) hi (by omega)]
 ·refine Ev.ends (fun k=>?_);simp only[impl_idOf.l0];rw[if_pos (by omega),if_pos (by omega),if_pos (by omega),if_pos (by simpa using hp)]
 ·refine Ev.ends (fun k=>?_);simp only[impl_idOf.l0];rw[if_neg (by omega)]
theorem l2At_ev (l:List S63) (nm:ByteArray) (h:l.length≤1048576):Ev (fun k=>spec_l2At.f k l nm) (nameAt l nm):=by
 refine Ev.congr (fun k=>?_) (first_loop (fun i k=>spec_l2At.l0 k l nm (i:Int)) l.length _ _ _ (fun i r hi hp h=>?_) (fun i hi hp=>?_) ?_)
 ·simp only[spec_l2At.f];rfl
 ·refine Ev.step (fun k=>?_) h;simp only[spec_l2At.l0];rw[if_pos (by omega),if_pos (by omega),if_neg (by simpa using hp),wrap_succ (n:=l.length) hi (by omega)]
 ·refine Ev.ends (fun k=>?_);simp only[spec_l2At.l0];rw[if_pos (by omega),if_pos (by omega),if_pos (by simpa using hp)]
 ·refine Ev.ends (fun k=>?_);simp only[spec_l2At.l0];rw[if_neg (by omega)]
theorem name_cases {ds:List S80} {ns ss:List S63} {nx:Int} (h:diskOk ds ns ss nx=true) (nm:ByteArray) :
 (nameAt ns nm = -1∧idOf ns nm=0)∨(∃j m,j<ns.length∧nameAt ns nm=(j:Int)∧idOf ns nm=(rd_T63 ns (j:Int)).f1∧idOf ns nm≠0∧m<ds.length∧inodeAt ds (rd_T63 ns (j:Int)).f1=(m:Int)∧nameOk nm=true):=by
 obtain⟨hi,h1,_⟩:=diskOk_parts h;unfold nameAt idOf
 rcases firstOr_split (fun i=>decide ((rd_T63 ns (i:Int)).f0.toList=nm.toList)) ns.length 0 with ⟨j,_,j2,j3,j4⟩|⟨_,j2⟩
 ·right;obtain⟨e1,e2⟩:=entOk_at h1 j (by omega);obtain⟨m,m1,m2,m3⟩:=inodeAt_is e2;have hp:=(inoBad_pos (inoOk_at hi m m1)).1;refine⟨j,m,by omega,j4 _ _,j4 _ _,?_,m1,m2,?_⟩
  ·rw[j4,←m3];omega
  ·rw[←toList_same (of_decide_eq_true j3)];exact e1
 ·left;exact⟨j2 _ _,j2 _ _⟩
def callOf (ok:Bool) (ns:List S63) (nm:ByteArray):Int:=if (ok&&nameOk nm)=true then (if nameAt ns nm<0 then 2 else 0) else 1
theorem l2Call_ev (ds:List S80) (ns ss:List S63) (nx:Int) (nm:ByteArray) (hn:nm.size≤9223372036854775807) (h:Small ds ns ss):Ev (fun k=>spec_l2Call.f k ds ns ss nx nm) (callOf (diskOk ds ns ss nx) ns nm):=by
 obtain⟨K1,e1⟩:=h.spec nx;obtain⟨K2,e2⟩:=spec_nameOk_ev nm hn;obtain⟨K3,e3⟩:=l2At_ev ns nm h.h1;dsimp only at e1 e2 e3;refine⟨K1+K2+K3+1,fun k hk=>?_⟩;obtain⟨q,rfl⟩:∃q,k=q+1:=⟨k-1,by omega⟩;simp only[spec_l2Call.f];rw[e1 _ (by omega),Option.bind_some];unfold callOf;cases diskOk ds ns ss nx
 ·rw[if_neg (by decide),Bool.false_and,if_neg (by decide)];simp only[spec_l2Call.j0];rfl
 rw[if_pos rfl,e2 _ (by omega),Option.bind_some,Bool.true_and];simp only[spec_l2Call.j0];cases nameOk nm
 ·rfl
 ·rw[if_neg (by decide),if_pos rfl,e3 _ (by omega),Option.bind_some];split<;>rfl
abbrev MDo:=Nat→List S80→List S63→List S63→Int→Option DiskR
def restOf (ds:List S80) (ns ss:List S63) (nx:Int) (names:List ByteArray) (there:Bool) (R:DiskR):DiskR:=
 if (there&&idOf ns (rdOf ByteArray.empty names 0) == 0)=true then (ds,ns,ss,nx,2) else if R.2.2.2.2=0 then endsOf ds ns ss nx R.1 R.2.1 R.2.2.1 R.2.2.2.1 else (ds,ns,ss,nx,R.2.2.2.2)
def changeOf (ds:List S80) (ns ss:List S63) (nx:Int) (names:List ByteArray) (there:Bool) (R:DiskR):DiskR:=
 if diskOk ds ns ss nx=true then (if names.all nameOk=true then restOf ds ns ss nx names there R else (ds,ns,ss,nx,1)) else (ds,ns,ss,nx,1)
theorem implRest_ev (mdo:MDo) (ds:List S80) (ns ss:List S63) (nx:Int) (R:DiskR) (h:Small ds ns ss) (hm:Ev (fun k=>mdo k ds ns ss nx) R∧(R.2.2.2.2=0→Small R.1 R.2.1 R.2.2.1)) :
 Ev (fun k=>impl_change.j1 mdo k false ds ns ss nx ds ns ss nx) (if R.2.2.2.2=0 then endsOf ds ns ss nx R.1 R.2.1 R.2.2.1 R.2.2.2.1 else (ds,ns,ss,nx,R.2.2.2.2)):=by
 refine Ev.step (f:=fun k=>(mdo k ds ns ss nx).bind fun t=>(if t.2.2.2.2=0 then (impl_change.l1 mdo k [] t.1 (t.1.length:Int) 0 ds ns ss nx t.1 t.2.1 t.2.2.1 t.2.2.2.1) else ((impl_copyDisk.f k ds ns ss nx).bind fun b=>(some (b.1,b.2.1,b.2.2.1,b.2.2.2,t.2.2.2.2))))) (fun k=>?_) (Ev.bind' hm.1 ?_)
 ·simp only[impl_change.j1,Bool.false_eq_true,if_false]
 ·by_cases hc:R.2.2.2.2=0
  ·simp only[hc,if_true];exact implEnds_ev mdo ds ns ss nx R.1 R.2.1 R.2.2.1 R.2.2.2.1 R.1 h (hm.2 hc)
  ·simp only[hc,if_false];exact Ev.bind' (h.copyI nx) (Ev.now _)
theorem implChange_ev (mdo:MDo) (ds:List S80) (ns ss:List S63) (nx:Int) (names:List ByteArray) (there:Bool) (R:DiskR) (h:Small ds ns ss) (hl:names.length≤2) (hz:∀nm ∈ names,nm.size≤9223372036854775807) (hth:there=true→0<names.length)
 (hm:diskOk ds ns ss nx=true→names.all nameOk=true→(there=true→idOf ns (rdOf ByteArray.empty names 0)≠0)→Ev (fun k=>mdo k ds ns ss nx) R∧(R.2.2.2.2=0→Small R.1 R.2.1 R.2.2.1)):Ev (fun k=>impl_change.f mdo k ds ns ss nx names there) (changeOf ds ns ss nx names there R):=by
 unfold impl_change.f changeOf;refine Ev.bind' (h.copyI nx) ?_;refine Ev.bind' (h.impl nx) ?_;cases hok:diskOk ds ns ss nx
 ·simp only[Bool.false_eq_true,if_false];exact Ev.now _
 simp only[if_true]
 have key:∀(d i:Nat),i+d=names.length→((names.drop i).all nameOk=true→names.all nameOk=true)→Ev (fun k=>impl_change.l0 mdo k names there names (names.length:Int) (i:Int) ds ns ss nx ds ns ss nx) (if (names.drop i).all nameOk=true then restOf ds ns ss nx names there R else (ds,ns,ss,nx,1)):=by
  intro d
  induction d with
  |zero=>
   intro i hi hall;have e:names.drop i=[]:=List.drop_eq_nil_of_le (by omega);rw[e]at hall ⊢;have hall:=hall rfl;rw[if_pos (show ([]:List ByteArray).all nameOk=true from rfl)];unfold restOf;cases there with
   |false=>
    rw[Bool.false_and,if_neg (by decide)];refine Ev.step (f:=fun k=>impl_change.j1 mdo k false ds ns ss nx ds ns ss nx) (fun k=>?_) (implRest_ev mdo ds ns ss nx R h (hm hok hall (fun h=>by simp at h)));simp only[impl_change.l0];rw[if_neg (by omega),if_neg (by decide)]
   |true=>
    rw[Bool.true_and];obtain⟨K,e1⟩:=idOf_ev ds ns ss nx (rdOf ByteArray.empty names 0) h.h1;have hpos:=hth rfl;dsimp only at e1;refine Ev.round (f:=fun k=>impl_change.j1 mdo k (idOf ns (rdOf ByteArray.empty names 0) == 0) ds ns ss nx ds ns ss nx) ⟨K,fun k hk=>?_⟩ ?_
    ·simp only[impl_change.l0];rw[if_neg (by omega),if_pos trivial,if_pos (by omega),e1 k hk,Option.bind_some]
    ·by_cases hc:idOf ns (rdOf ByteArray.empty names 0)=0
     ·rw[hc];refine Ev.ends (fun k=>?_);simp only[impl_change.j1];rfl
     ·rw[beq_eq_false_iff_ne.2 hc,if_neg (by decide)];exact implRest_ev mdo ds ns ss nx R h (hm hok hall (fun _=>hc))
  |succ d ih=>
   intro i hi hall;have hil:i<names.length:=by omega
   have ed:names.drop i=names[i]::names.drop (i+1):=List.drop_eq_getElem_cons hil
   have er:rdOf ByteArray.empty names (i:Int)=names[i]:=by
    show names.getD i ByteArray.empty=_;rw[List.getD_eq_getElem?_getD,List.getElem?_eq_getElem hil];rfl
   obtain⟨K1,e1⟩:=impl_nameOk_ev names[i] (hz _ (List.getElem_mem hil));dsimp only at e1;rw[ed,List.all_cons]at hall ⊢;cases hno:nameOk names[i] with
   |false=>
    rw[Bool.false_and,if_neg (by decide)];refine Ev.round (f:=fun k=>some (ds,ns,ss,nx,1)) ⟨K1,fun k hk=>?_⟩ (Ev.now _);simp only[impl_change.l0];rw[if_pos (by omega),if_pos (by omega),if_pos (by omega),er,e1 k hk,Option.bind_some,hno,if_neg (by decide)]
   |true=>
    rw[hno,Bool.true_and]at hall;rw[Bool.true_and];refine Ev.round (f:=fun k=>impl_change.l0 mdo k names there names (names.length:Int) ((i+1:Nat):Int) ds ns ss nx ds ns ss nx) ⟨K1,fun k hk=>?_⟩ (ih (i+1) (by omega) hall);simp only[impl_change.l0];rw[if_pos (by omega),if_pos (by omega),if_pos (by omega),er,e1 k hk,Option.bind_some,hno,if_pos rfl,wrap_succ (n:=names.length) hil (by omega)]
 have:=key names.length 0 (by omega) (fun h=>h);rw[List.drop_zero]at this;exact this
theorem changeOne_eq (ds:List S80) (ns ss:List S63) (nx:Int) (nm:ByteArray) (R:DiskR):changeOf ds ns ss nx [nm] true R=if callOf (diskOk ds ns ss nx) ns nm=0 then (if R.2.2.2.2=0 then endsOf ds ns ss nx R.1 R.2.1 R.2.2.1 R.2.2.2.1 else (ds,ns,ss,nx,R.2.2.2.2)) else (ds,ns,ss,nx,callOf (diskOk ds ns ss nx) ns nm):=by
 unfold changeOf restOf callOf;have e0:rdOf ByteArray.empty [nm] 0=nm:=rfl;rw[e0,List.all_cons,List.all_nil,Bool.and_true,Bool.true_and];cases hok:diskOk ds ns ss nx
 ·simp
 ·rw[Bool.true_and,if_pos rfl];cases hno:nameOk nm
  ·simp
  ·rw[if_pos rfl,if_pos rfl]
   rcases name_cases hok nm with ⟨c1,c2⟩|⟨j,m,c1,c2,c3,c4,_⟩
   ·rw[c2,if_pos (by decide),if_pos (show nameAt ns nm<0 by omega),if_neg (by decide)]
   ·rw[beq_eq_false_iff_ne.2 c4,if_neg (by decide),if_neg (show ¬nameAt ns nm<0 by omega),if_pos rfl]
theorem changeOne_at {ds:List S80} {ns ss:List S63} {nx:Int} {nm:ByteArray} (hok:diskOk ds ns ss nx=true) (hid:idOf ns nm≠0):∃j m,j<ns.length∧nameAt ns nm=(j:Int)∧idOf ns nm=(rd_T63 ns (j:Int)).f1∧m<ds.length∧inodeAt ds (idOf ns nm)=(m:Int):=by
 rcases name_cases hok nm with ⟨c1,c2⟩|⟨j,m,c1,c2,c3,c4,c5,c6,_⟩
 ·exact absurd c2 hid
 ·exact⟨j,m,c1,c2,c3,c5,by rw[c3];exact c6⟩
def sureAt (ds:List S80) (m:Nat):List S80:=ds.set m (⟨(rd_T80 ds (m:Int)).f0,(rd_T80 ds (m:Int)).f1,((rd_T80 ds (m:Int)).f1.length:Int)⟩:S80)
theorem sureAt_length (ds:List S80) (m:Nat):(sureAt ds m).length=ds.length:=by simp[sureAt]
theorem sureAt_rd (ds:List S80) (m i:Nat) (hi:i<ds.length):(rd_T80 (sureAt ds m) (i:Int)).f0=(rd_T80 ds (i:Int)).f0∧(rd_T80 (sureAt ds m) (i:Int)).f1=(rd_T80 ds (i:Int)).f1∧((rd_T80 (sureAt ds m) (i:Int)).f2=(rd_T80 ds (i:Int)).f2∨(rd_T80 (sureAt ds m) (i:Int)).f2=((rd_T80 ds (i:Int)).f1.length:Int)):=by
 have e:rd_T80 (sureAt ds m) (i:Int)=if m=i then (⟨(rd_T80 ds (m:Int)).f0,(rd_T80 ds (m:Int)).f1,((rd_T80 ds (m:Int)).f1.length:Int)⟩:S80) else rd_T80 ds (i:Int):=by
  show (sureAt ds m).getD i z80=_;unfold sureAt;rw[List.getD_eq_getElem?_getD,List.getElem?_set];by_cases h:m=i
  ·subst h;rw[if_pos rfl,if_pos hi,if_pos rfl];rfl
  ·rw[if_neg h,if_neg h];show _=ds.getD i z80;rw[List.getD_eq_getElem?_getD]
 rw[e];by_cases h:m=i
 ·subst h;rw[if_pos rfl];exact⟨rfl,rfl,.inr rfl⟩
 ·rw[if_neg h];exact⟨rfl,rfl,.inl rfl⟩
theorem sureAt_small {ds:List S80} {ns ss:List S63} (h:Small ds ns ss) (m:Nat):Small (sureAt ds m) ns ss:=by
 refine⟨by rw[sureAt_length];exact h.h0,fun x hx=>?_,h.h1,h.h2,h.z1,h.z2⟩;obtain⟨i,hi,rfl⟩:=List.getElem_of_mem hx;rw[sureAt_length]at hi;have e:=(sureAt_rd ds m i hi).2.1
 have e2:rd_T80 (sureAt ds m) (i:Int)=(sureAt ds m)[i]'(by rw[sureAt_length];exact hi):=by
  show (sureAt ds m).getD i z80=_;rw[List.getD_eq_getElem?_getD,List.getElem?_eq_getElem (by rw[sureAt_length];exact hi)];rfl
 rw[e2]at e;rw[e];exact h.hd _ (rdI_mem hi)
theorem sureAt_inodeAt (ds:List S80) (m:Nat) (id:Int):inodeAt (sureAt ds m) id=inodeAt ds id:=by
 unfold inodeAt;rw[sureAt_length];exact firstOr_congr _ _ (fun j _ hj=>by rw[(sureAt_rd ds m j (by omega)).1])
theorem sureAt_psum (ds:List S80) (m:Nat):∀i,i≤ds.length→psum (sureAt ds m) i=psum ds i
 |0,_=>rfl
 |i+1,h=>by
  unfold psum;rw[sureAt_psum ds m i (by omega),(sureAt_rd ds m i (by omega)).2.1]
theorem sureAt_entOk (ds:List S80) (m:Nat) (l:List S63):entOk (sureAt ds m) l=entOk ds l:=by
 unfold entOk;exact firstOr_congr _ _ (fun j _ _=>by unfold entBad;rw[sureAt_inodeAt])
theorem sureAt_inoOk (ds:List S80) (m:Nat) (ns ss:List S63) (nx:Int) (h:inoOk ds ns ss nx=true):inoOk (sureAt ds m) ns ss nx=true:=by
 have key:∀j,j<ds.length→inoBad (sureAt ds m) ns ss nx j=false:=by
  intro j hj;have hb:=inoOk_at h j hj;have hb2:=hb;unfold inoBad at hb2 ⊢;rw[Bool.or_eq_false_iff,Bool.or_eq_false_iff,Bool.or_eq_false_iff]at hb2 ⊢;obtain⟨⟨⟨h1,h2⟩,h3⟩,h4⟩:=hb2;obtain⟨e0,e1,e2⟩:=sureAt_rd ds m j hj;rw[e0,e1];refine⟨⟨⟨h1,?_⟩,?_⟩,h4⟩
  ·rcases e2 with e2|e2
   ·rw[e2];exact h2
   ·rw[e2];simp
  ·by_cases h0:0<j
   ·rw[(sureAt_rd ds m (j-1) (by omega)).1];exact h3
   ·simp[h0]
 unfold inoOk;rw[sureAt_length]
 rcases firstOr_split (inoBad (sureAt ds m) ns ss nx) ds.length 0 with ⟨j,_,h2,h3,_⟩|⟨_,h2⟩
 ·rw[key j (by omega)]at h3;simp at h3
 ·rw[h2];rfl
theorem sureAt_diskOk {ds:List S80} {ns ss:List S63} {nx:Int} (h:diskOk ds ns ss nx=true) (m:Nat):diskOk (sureAt ds m) ns ss nx=true:=by
 unfold diskOk at h ⊢;rw[Bool.and_eq_true,Bool.and_eq_true,Bool.and_eq_true]at h ⊢;rw[sureAt_length,sureAt_psum ds m ds.length (Nat.le_refl _),sureAt_entOk,sureAt_entOk];exact⟨h.1,sureAt_inoOk ds m ns ss nx h.2.1,h.2.2⟩
theorem kept_all {ds:List S80} {ns ss:List S63} {nx:Int} (h:diskOk ds ns ss nx=true):kept ds ns ss=ds:=by
 have hi:=(diskOk_parts h).1;unfold kept;rw[List.filter_eq_self.2 (fun i hm=>?_),range_map_rd];have hb:=inoOk_at hi i (by simpa using hm);unfold inoBad at hb;rw[Bool.or_eq_false_iff,Bool.and_eq_false_iff]at hb
 rcases hb.2 with h2|h2
 ·rw[Bool.not_eq_false']at h2;rw[h2,Bool.true_or]
 ·rw[Bool.not_eq_false']at h2;rw[h2,Bool.or_true]
def syncOf (ds:List S80) (ns ss:List S63) (nx:Int) (nm:ByteArray):DiskR:=if callOf (diskOk ds ns ss nx) ns nm=0 then (sureAt ds (inodeAt ds (idOf ns nm)).toNat,ns,ss,nx,0) else (ds,ns,ss,nx,callOf (diskOk ds ns ss nx) ns nm)
theorem call_cases {ds:List S80} {ns ss:List S63} {nx:Int} {nm:ByteArray} (hc:callOf (diskOk ds ns ss nx) ns nm=0):diskOk ds ns ss nx=true∧nameOk nm=true∧∃j m,j<ns.length∧nameAt ns nm=(j:Int)∧idOf ns nm=(rd_T63 ns (j:Int)).f1∧idOf ns nm≠0∧m<ds.length∧inodeAt ds (idOf ns nm)=(m:Int):=by
 unfold callOf at hc;cases hok:diskOk ds ns ss nx
 ·rw[hok]at hc;simp at hc
 rw[hok,Bool.true_and]at hc;cases hno:nameOk nm
 ·rw[hno]at hc;simp at hc
 rw[hno,if_pos rfl]at hc
 rcases name_cases hok nm with ⟨c1,_⟩|⟨j,m,c1,c2,c3,c4,c5,c6,_⟩
 ·rw[if_pos (by omega)]at hc;simp at hc
 ·exact⟨rfl,rfl,j,m,c1,c2,c3,c4,c5,by rw[c3];exact c6⟩
theorem specSync_ev (ds:List S80) (ns ss:List S63) (nx:Int) (nm:ByteArray) (hn:nm.size≤9223372036854775807) (h:Small ds ns ss):Ev (fun k=>spec_Sync.f k ds ns ss nx nm) (syncOf ds ns ss nx nm):=by
 unfold spec_Sync.f syncOf;refine Ev.bind' (h.copyS nx) ?_;refine Ev.bind' (l2Call_ev ds ns ss nx nm hn h) ?_;by_cases hc:callOf (diskOk ds ns ss nx) ns nm=0
 ·obtain⟨_,_,j,m,c1,c2,c3,c4,c5,c6⟩:=call_cases hc;simp only[hc,if_true];refine Ev.bind' (l2At_ev ns nm h.h1) ?_;have g1:(0≤nameAt ns nm)=True:=eq_true (by omega);have g2:(nameAt ns nm<(ns.length:Int))=True:=eq_true (by omega);simp only[g1,g2,if_true];refine Ev.bind' (l2Inode_ev ds ns ss nx h.h0 _) ?_;rw[c2,←c3,c6];have g3:(0≤(m:Int))=True:=eq_true (by omega);have g4:((m:Int)<(ds.length:Int))=True:=eq_true (by omega);simp only[g3,g4,if_true];exact Ev.now _
 ·simp only[hc,if_false];exact Ev.now _
theorem implPlace_ev (ds:List S80) (ns ss:List S63) (nx:Int) (nm:ByteArray) (h:Small ds ns ss) (m:Nat) (hm:m<ds.length) (hi:inodeAt ds (idOf ns nm)=(m:Int)):Ev (fun k=>do_SyncAt.f k ds ns ss nx nm) (m:Int):=by
 unfold do_SyncAt.f;refine Ev.bind' (idOf_ev ds ns ss nx nm h.h1) ?_;refine Ev.bind' (inodeAt_ev ds ns ss nx h.h0 (idOf ns nm)) ?_;rw[hi];have g3:(0≤(m:Int))=True:=eq_true (by omega);have g4:((m:Int)<(ds.length:Int))=True:=eq_true (by omega);simp only[g3,g4,if_true];exact Ev.now _
theorem implSync_ev (ds:List S80) (ns ss:List S63) (nx:Int) (nm:ByteArray) (hn:nm.size≤9223372036854775807) (h:Small ds ns ss):Ev (fun k=>impl_Sync.f k ds ns ss nx nm) (syncOf ds ns ss nx nm):=by
 unfold impl_Sync.f;refine Ev.bind' (implChange_ev (do_Sync.f nm) ds ns ss nx [nm] true (sureAt ds (inodeAt ds (idOf ns nm)).toNat,ns,ss,nx,0) h (by simp) (fun x hx=>by rw[List.mem_singleton.1 hx];exact hn) (fun _=>by simp) (fun hok _ hid=>⟨?_,fun _=>sureAt_small h _⟩)) ?_
 ·obtain⟨j,m,_,_,_,c5,c6⟩:=changeOne_at hok (show idOf ns nm≠0 from hid rfl);unfold do_Sync.f;rw[c6];exact Ev.bind' (implPlace_ev ds ns ss nx nm h m c5 c6) (Ev.now _)
 ·rw[changeOne_eq];unfold syncOf;by_cases hc:callOf (diskOk ds ns ss nx) ns nm=0
  ·have hok:=(call_cases hc).1;have hO:=sureAt_diskOk hok (inodeAt ds (idOf ns nm)).toNat;simp only[hc,if_true];unfold endsOf;simp only[kept_all hO,hO,if_true];exact Ev.now _
  ·simp only[hc,if_false];exact Ev.now _
theorem FnExactSync:laws_FnExactSync.Pure:=by
 intro x nm hx hnm;refine Comes.true_ ?_;simp only[laws_FnExactSync.f];refine Comes.ite (fun _=>Comes.ret true rfl) (fun _=>?_);refine Comes.bind (szDisk_comes x ⟨hx.1.1,fun y hy=>(hx.1.2 y hy).2.1.1⟩ ⟨hx.2.1.1,fun y hy=>(hx.2.1.2 y hy).1⟩ ⟨hx.2.2.1.1,fun y hy=>(hx.2.2.1.2 y hy).1⟩ 1048576 (by omega) (by omega)) (fun t ht=>Comes.ite (fun _=>Comes.ret true rfl) (fun hn=>?_));obtain⟨b0,bd,b1,b2⟩:=ht.2 (by omega);have c0:(x.f0.map toInode).length≤1048576:=by simpa using b0
 have c1:(x.f1.map toEntry).length≤1048576:=by simpa using b1
 have c2:(x.f2.map toEntry).length≤1048576:=by simpa using b2
 have hmd:∀y ∈ x.f0.map toInode,y.f1.length≤4194304:=by
  intro y hy;obtain⟨z,hz,rfl⟩:=List.mem_map.1 hy;exact Nat.le_trans (bd z hz) (by decide)
 have hz1:∀e ∈ x.f1.map toEntry,e.f0.size≤9223372036854775807:=by
  intro y hy;obtain⟨z,hz,rfl⟩:=List.mem_map.1 hy;exact(hx.2.1.2 z hz).1
 have hz2:∀e ∈ x.f2.map toEntry,e.f0.size≤9223372036854775807:=by
  intro y hy;obtain⟨z,hz,rfl⟩:=List.mem_map.1 hy;exact(hx.2.2.1.2 z hz).1
 have hsm:Small (x.f0.map toInode) (x.f1.map toEntry) (x.f2.map toEntry):=⟨c0,hmd,c1,c2,hz1,hz2⟩
 have hr:Small (syncOf (x.f0.map toInode) (x.f1.map toEntry) (x.f2.map toEntry) x.f3 nm).1 (syncOf (x.f0.map toInode) (x.f1.map toEntry) (x.f2.map toEntry) x.f3 nm).2.1 (syncOf (x.f0.map toInode) (x.f1.map toEntry) (x.f2.map toEntry) x.f3 nm).2.2.1:=by
  unfold syncOf;split
  ·exact sureAt_small hsm _
  ·exact hsm
 obtain⟨K1,h1⟩:=toDisk_ev x b0 bd b1 b2;obtain⟨K2,h2⟩:=specSync_ev (x.f0.map toInode) (x.f1.map toEntry) (x.f2.map toEntry) x.f3 nm (by omega) hsm;obtain⟨K3,h3⟩:=implSync_ev (x.f0.map toInode) (x.f1.map toEntry) (x.f2.map toEntry) x.f3 nm (by omega) hsm;generalize syncOf (x.f0.map toInode) (x.f1.map toEntry) (x.f2.map toEntry) x.f3 nm=r at hr h2 h3
 obtain⟨K4,h4⟩:=eqDisk_ev (x.f0.map toInode) (x.f1.map toEntry) (x.f2.map toEntry) x.f3 c0 hmd c1 c2;obtain⟨hm,K5,h5⟩:=markDisk_only (x.f0.map toInode) (x.f1.map toEntry) (x.f2.map toEntry) x.f3 c0 hmd c1 c2;obtain⟨K6,h6⟩:=eqDisk_ev r.1 r.2.1 r.2.2.1 r.2.2.2.1 hr.h0 hr.hd hr.h1 hr.h2;obtain⟨m,a',b',c',hm2,⟨K7,h7⟩,⟨K8,h8⟩⟩:=markDisk_ev r.1 r.2.1 r.2.2.1 r.2.2.2.1 hr.h0 hr.hd hr.h1 hr.h2;dsimp only at h1 h2 h3 h4 h5 h6 h7 h8;refine⟨true,rfl,K1+K2+K3+K4+K5+K6+K7+K8+3,fun k hk=>?_⟩;obtain⟨q,rfl⟩:∃q,k=q+3:=⟨k-3,by omega⟩;dsimp only;rw[h1 _ (by omega),Option.bind_some,h2 _ (by omega),Option.bind_some,Option.bind_some,h3 _ (by omega),Option.bind_some,h6 _ (by omega),Option.bind_some,if_pos rfl];simp only[laws_FnExactSync.j0,laws_FnExactSync.j1,laws_FnExactSync.j2,bne_self_eq_false,Bool.false_eq_true,if_false];rw[h1 _ (by omega),Option.bind_some,h4 _ (by omega),Option.bind_some,if_pos rfl,h5 _ (by omega),Option.bind_some,if_neg (by simp only[];omega),h6 _ (by omega),Option.bind_some,if_pos rfl,h7 _ (by omega),Option.bind_some,h8 _ (by omega),Option.bind_some,if_neg (by omega),if_pos rfl,h1 _ (by omega),Option.bind_some,h3 _ (by omega),Option.bind_some,h6 _ (by omega),Option.bind_some,if_pos rfl];simp only[bne_self_eq_false,Bool.false_eq_true,if_false];rw[h8 _ (by omega),Option.bind_some,if_neg (by omega),if_pos rfl]
end Go.Proofs.Ytgpkdbnikcghgaa.MPureFnExactSync
