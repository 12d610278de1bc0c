/- TablePairs of the program and of the reference answer the same, for all bytes; what it answers is new memory. No condition. -/
import Derived.Test.YtecjamgajlpfdaaMFnExactTablePairsDef
import Derived.Laws.Closers25b
set_option linter.unusedVariables false
set_option linter.unusedSimpArgs false
namespace Go.Proofs.Ytecjamgajlpfdaa.MPureFnExactTablePairs
open Go.RowKit Go.Proofs.Ytecjamgajlpfdaa.MFnExactTablePairs Go.Proofs.YtecjamgajlpfdaaW.PrintWords Go.Proofs.YtecjamgajlpfdaaW.PrintLast Go.Proofs.YtecjamgajlpfdaaW.PrintMore
theorem wrap_id {i:Int} (h0:-9223372036854775808≤i) (h1:i≤9223372036854775807):wrap64 i=i:=by unfold wrap64;omega
theorem wrap_succ {i n:Nat} (h:i<n) (hn:n≤9223372036854775807):wrap64 ((i:Int)+1)=((i+1:Nat):Int):=by unfold wrap64;omega
theorem rd_nat (xs:List Int) (i:Nat):rd xs (i:Int)=xs.getD i 0:=by simp[rd]
theorem take_set_succ {α:Type} (l:List α) (i:Nat) (x:α) (h:i<l.length):(l.set i x).take (i+1)=l.take i++[x]:=by
 rw[List.take_succ_eq_append_getElem (by simpa using h),List.getElem_set_self,List.take_set_of_le (Nat.le_refl _)]
theorem take_succ_getD {α:Type} (l:List α) (i:Nat) (d:α) (h:i<l.length):l.take (i+1)=l.take i++[l.getD i d]:=by
 rw[List.take_succ_eq_append_getElem h,List.getD_eq_getElem?_getD,List.getElem?_eq_getElem h];rfl
theorem take_all {α:Type} {l m:List α} {n:Nat} (h:l.take n=m) (hl:l.length=n):l=m:=by
 rw[←h,←hl,List.take_length]
theorem wf_u8 {x:Int} (h:(Lit.int .u8 x).wf=true):0≤x∧x≤255:=by
 simp[Lit.wf,IntKind.min,IntKind.max,IntKind.signed,IntKind.bits]at h;omega
theorem wf_i64 {x:Int} (h:(Lit.int .i64 x).wf=true):-9223372036854775808≤x∧x≤9223372036854775807:=by
 simp[Lit.wf,IntKind.min,IntKind.max,IntKind.signed,IntKind.bits]at h;omega
theorem toByteS_l0 (xs:List Int) (hn:xs.length≤9223372036854775806):∀(d:Nat) (out:List Int) (i:Nat),i+d=xs.length→out.length=xs.length→out.take i=xs.take i →
 Ev (fun k=>laws_toByteS.l0 k xs out (i:Int)) xs:=by
 intro d
 induction d with
 |zero=>
  intro out i hi hl ht;have e:out=xs:=by rw[take_all ht (by omega),List.take_of_length_le (by omega)]
  refine Ev.step (f:=fun _=>some xs) (fun k=>?_) (Ev.now xs);simp only[laws_toByteS.l0];rw[if_neg (by omega),e]
 |succ d ih=>
  intro out i hi hl ht;refine Ev.step (f:=fun k=>laws_toByteS.l0 k xs (out.set i (xs.getD i 0)) ((i+1:Nat):Int)) (fun k=>?_) (ih _ _ (by omega) (by simp[hl]) ?_)
  ·simp only[laws_toByteS.l0];rw[if_pos (by omega),if_pos (by omega),if_pos (by omega),wrap_succ (n:=xs.length) (by omega) (by omega),rd_nat,Int.toNat_natCast]
  ·rw[take_set_succ _ _ _ (by omega),take_succ_getD _ _ 0 (by omega),ht]
theorem toByteS_ev (xs:List Int) (hn:xs.length≤281474976710656):Ev (fun k=>laws_toByteS.f k xs) xs:=by
 have h:=toByteS_l0 xs (by omega) xs.length (List.replicate xs.length 0) 0 (by omega) (by simp) (by simp);refine Ev.congr (fun k=>?_) h;simp only[laws_toByteS.f];rw[if_pos (by omega),if_pos (by omega)];rfl
theorem eqByteS_l0 (xs:List Int) (hn:xs.length≤9223372036854775806):∀(d i:Nat),i+d=xs.length→Ev (fun k=>laws_eqByteS.l0 k xs xs (i:Int)) true:=by
 intro d
 induction d with
 |zero=>
  intro i hi;refine Ev.step (f:=fun _=>some true) (fun k=>?_) (Ev.now true);simp only[laws_eqByteS.l0];rw[if_neg (by omega)]
 |succ d ih=>
  intro i hi;refine Ev.step (f:=fun k=>laws_eqByteS.l0 k xs xs ((i+1:Nat):Int)) (fun k=>?_) (ih _ (by omega));simp only[laws_eqByteS.l0];rw[if_pos (by omega),if_pos (by omega),if_pos (by omega),if_pos trivial,wrap_succ (n:=xs.length) (by omega) (by omega)]
theorem eqByteS_ev (xs:List Int) (hn:xs.length≤9223372036854775806):Ev (fun k=>laws_eqByteS.f k xs xs) true:=by
 refine Ev.congr (fun k=>?_) (eqByteS_l0 xs hn xs.length 0 (by omega));simp only[laws_eqByteS.f];rw[if_pos trivial];rfl
def markB (a:Int) (n:Nat):List Int:=(List.range n).map fun (j:Nat)=>(a+(j:Int)) % 256
theorem markB_length (a:Int) (n:Nat):(markB a n).length=n:=by simp[markB]
theorem markB_succ (a:Int) (n:Nat):markB a (n+1)=markB a n++[(a+(n:Int)) % 256]:=by simp[markB,List.range_succ]
theorem markB_get (a:Int) (n i:Nat) (h:i<n):(markB a n).getD i 0=(a+(i:Int)) % 256:=by
 simp[markB,List.getD_eq_getElem?_getD,h]
theorem markByteS_l0 (a:Int) (n:Nat) (ha:0≤a) (hb:a+n≤9223372036854775806):∀(d:Nat) (l:List Int) (i:Nat),i+d=n→l.length=n→l.take i=markB a i →
 Ev (fun k=>laws_markByteS.l0 k l (a+(i:Int)) (i:Int)) (a+(n:Int),markB a n):=by
 intro d
 induction d with
 |zero=>
  intro l i hi hl ht;have hin:i=n:=by omega
  subst hin;have e:l=markB a i:=take_all ht hl;refine Ev.step (f:=fun _=>some (a+(i:Int),markB a i)) (fun k=>?_) (Ev.now _);simp only[laws_markByteS.l0];rw[if_neg (by omega),e]
 |succ d ih=>
  intro l i hi hl ht;refine Ev.step (f:=fun k=>laws_markByteS.l0 k (l.set i ((a+(i:Int)) % 256)) (a+((i+1:Nat):Int)) ((i+1:Nat):Int)) (fun k=>?_) (ih _ _ (by omega) (by simp[hl]) ?_)
  ·simp only[laws_markByteS.l0];rw[if_pos (by omega),if_pos (by omega),wrap_succ (n:=n) (by omega) (by omega),Int.toNat_natCast,wrap_id (i:=a+(i:Int)+1) (by omega) (by omega)];congr 1;omega
  ·rw[take_set_succ _ _ _ (by omega),markB_succ,ht]
theorem markByteS_ev (l:List Int) (a:Int) (ha:0≤a) (hb:a+l.length≤9223372036854775806):Ev (fun k=>laws_markByteS.f k l a) (a+(l.length:Int),markB a l.length):=by
 refine Ev.congr (fun k=>?_) (markByteS_l0 a l.length ha hb l.length l 0 (by omega) rfl rfl);simp only[laws_markByteS.f];congr 1;simp
theorem fill_loop {β:Type} (L:Nat→List β→Int→Option (List β)) (n:Nat) (g:Nat→β) (z:β)
 (hs:∀(i:Nat) (out:List β) (r:List β),i<n→out.length=n→Ev (fun k=>L k (out.set i (g i)) ((i+1:Nat):Int)) r→Ev (fun k=>L k out (i:Int)) r)
 (he:∀out:List β,out.length=n→Ev (fun k=>L k out (n:Int)) out):Ev (fun k=>L k (List.replicate n z) 0) ((List.range n).map g):=by
 have key:∀(d i:Nat) (out:List β),i+d=n→out.length=n→out.take i=(List.range i).map g→Ev (fun k=>L k out (i:Int)) ((List.range n).map g):=by
  intro d
  induction d with
  |zero=>
   intro i out hi hl ht;have:i=n:=by omega
   subst this;have e:=take_all ht hl;rw[←e];exact he out hl
  |succ d ih=>
   intro i out hi hl ht;refine hs i out _ (by omega) hl (ih (i+1) _ (by omega) (by simp[hl]) ?_);rw[take_set_succ _ _ _ (by omega),ht,List.range_succ,List.map_append];rfl
 exact key n 0 _ (by omega) (by simp) (by simp)
theorem mark_loop {β σ:Type} (L:Nat→List β→σ→Int→Option (σ × List β)) (n:Nat) (g:Nat→β) (st:Nat→σ)
 (hs:∀(i:Nat) (out:List β) (r:σ × List β),i<n→out.length=n→Ev (fun k=>L k (out.set i (g i)) (st (i+1)) ((i+1:Nat):Int)) r→Ev (fun k=>L k out (st i) (i:Int)) r)
 (he:∀out:List β,out.length=n→Ev (fun k=>L k out (st n) (n:Int)) (st n,out)) (l:List β) (hl:l.length=n):Ev (fun k=>L k l (st 0) 0) (st n,(List.range n).map g):=by
 have key:∀(d i:Nat) (out:List β),i+d=n→out.length=n→out.take i=(List.range i).map g→Ev (fun k=>L k out (st i) (i:Int)) (st n,(List.range n).map g):=by
  intro d
  induction d with
  |zero=>
   intro i out hi hl ht;have:i=n:=by omega
   subst this;have e:=take_all ht hl;rw[←e];exact he out hl
  |succ d ih=>
   intro i out hi hl ht;refine hs i out _ (by omega) hl (ih (i+1) _ (by omega) (by simp[hl]) ?_);rw[take_set_succ _ _ _ (by omega),ht,List.range_succ,List.map_append];rfl
 exact key n 0 _ (by omega) hl (by simp)
theorem scan_loop {ρ : Type} (g : Nat → Nat → Option ρ) (n : Nat) (r : ρ) (hs : ∀ i, i < n → Ev (g (i + 1)) r → Ev (g i) r) (he : Ev (g n) r) : Ev (g 0) r := by
  have key : ∀ (d i : Nat), i + d = n → Ev (g i) r := by
    intro d
    induction d with
    | zero => intro i hi; have : i = n := by omega
              subst this; exact he
    | succ d ih => intro i hi; exact hs i (by omega) (ih (i + 1) (by omega))
  exact key n 0 (by omega)
theorem range_map_get {α β:Type} (l:List α) (f:α→β) (d:α):(List.range l.length).map (fun i=>f (l.getD i d))=l.map f:=by
 apply List.ext_getElem?;intro i;rw[List.getElem?_map,List.getElem?_map];by_cases h:i<l.length
 ·simp[h,List.getD_eq_getElem?_getD]
 ·rw[List.getElem?_eq_none (by simp;omega),List.getElem?_eq_none (by omega)];rfl
theorem range_map_getD {β:Type} (n i:Nat) (g:Nat→β) (d:β) (h:i<n):((List.range n).map g).getD i d=g i:=by
 simp[List.getD_eq_getElem?_getD,h]
theorem Ev.bind' {α β:Type} {g:Nat→Option α} {f:Nat→α→Option β} {a:α} {r:β} (h:Ev g a) (k:Ev (fun n=>f n a) r):Ev (fun n=>(g n).bind (f n)) r:=Ev.bind h k
theorem Ev.cond {α:Type} {g f:Nat→Option α} {r:α} (h:∃K,∀k,K≤k→g k=f k) (k:Ev f r):Ev g r:=by
 obtain⟨K,h⟩:=h;obtain⟨K',k⟩:=k;exact⟨K+K',fun n hn=>by rw[h n (by omega)];exact k n (by omega)⟩
theorem Ev.round {α:Type} {g f:Nat→Option α} {r:α} (h:∃K,∀k,K≤k→g (k+1)=f k) (k:Ev f r):Ev g r:=by
 obtain⟨K,h⟩:=h;obtain⟨K',k⟩:=k
 exact⟨K+K'+1,fun n hn=>by
  obtain⟨m,rfl⟩:∃m,n=m+1:=⟨n-1,by omega⟩;rw[h m (by omega)];exact k m (by omega)⟩
theorem Ev.ends {α:Type} {g:Nat→Option α} {r:α} (h:∀k,g (k+1)=some r):Ev g r:=⟨1,fun n hn=>by
 obtain⟨m,rfl⟩:∃m,n=m+1:=⟨n-1,by omega⟩;exact h m⟩
theorem Ev.all {α:Type} {g:Nat→Option α} {r:α} (h:∀k,g k=some r):Ev g r:=⟨0,fun n _=>h n⟩
theorem eqPair_self (x:S87):laws_eqPair.f x.f0 x.f1 x.f2 x.f0 x.f1 x.f2=some true:=by
 simp[laws_eqPair.f]
theorem eqPairS_ev (l:List S87) (h:l.length≤9223372036854775806):Ev (fun k=>laws_eqPairS.f k l l) true:=by
 refine Ev.congr (fun k=>?_) (scan_loop (fun i k=>laws_eqPairS.l0 k l l (i:Int)) l.length true (fun i hi h=>?_) ?_)
 ·simp only[laws_eqPairS.f];rw[if_pos trivial];rfl
 ·refine Ev.step (fun k=>?_) h;simp only[laws_eqPairS.l0,eqPair_self,Option.bind_some];rw[if_pos (by omega),if_pos (by omega),if_pos (by omega),wrap_succ (n:=l.length) hi (by omega)];rfl
 ·refine Ev.ends (fun k=>?_);simp only[laws_eqPairS.l0];rw[if_neg (by omega)]
def mtR:Nat→Int→ByteArray→ByteArray
 |0,_,s=>s
 |d+1,k,s=>if k>0 then mtR d (k / 10) (strOfNums [(48+k % 10) % 256]++s) else s
def mtext (k:Int):ByteArray:=if k≤0 then ⟨#[109,48]⟩ else ⟨#[109]⟩++mtR 20 k ⟨#[]⟩
theorem markText_l0:∀(d:Nat) (k:Int) (s:ByteArray),k<10 ^ d→k≤9223372036854775807→s.size+d≤9223372036854775806→Ev (fun q=>laws_markText.l0 q k s) (⟨#[109]⟩++mtR d k s):=by
 intro d
 induction d with
 |zero=>
  intro k s hk hk2 hs;refine Ev.ends (fun q=>?_);simp only[laws_markText.l0];rw[if_neg (by omega),if_pos (by omega)];rfl
 |succ d ih=>
  intro k s hk hk2 hs;by_cases h0:k>0
  ·have hp:(10:Int) ^ (d+1)=10 ^ d*10:=Int.pow_succ ..;have hsz:(strOfNums [(48+k % 10) % 256]++s).size=1+s.size:=by rw[ByteArray.size_append];rfl
   have hm:Int.tmod k 10=k % 10:=Int.tmod_eq_emod_of_nonneg (by omega);have hd:Int.tdiv k 10=k / 10:=Int.tdiv_eq_ediv_of_nonneg (by omega);have:=ih (k / 10) (strOfNums [(48+k % 10) % 256]++s) (by omega) (by omega) (by omega);unfold mtR;rw[if_pos h0];refine Ev.step (fun q=>?_) this;simp only[laws_markText.l0,Option.bind_some];rw[if_pos h0,hm,hd,wrap_id (i:=48+k % 10) (by omega) (by omega),wrap_id (i:=k / 10) (by omega) (by omega),if_pos (by rw[←ByteArray.size_append,hsz];omega)]
  ·unfold mtR;rw[if_neg h0];refine Ev.ends (fun q=>?_);simp only[laws_markText.l0];rw[if_neg h0,if_pos (by omega)]
theorem markText_ev (k:Int) (h:k≤9223372036854775807):Ev (fun q=>laws_markText.f q k) (mtext k):=by
 unfold mtext;by_cases h0:k≤0
 ·rw[if_pos h0];exact Ev.all (fun q=>by simp only[laws_markText.f];rw[if_pos h0])
 ·rw[if_neg h0];refine Ev.congr (fun q=>?_) (markText_l0 20 k ⟨#[]⟩ (by omega) h (show (0:Nat)+20≤9223372036854775806 by omega));simp only[laws_markText.f];rw[if_neg h0]
theorem getD_set_eq {α:Type} {l:List α} {i:Nat} (x z:α) (h:i<l.length):(l.set i x).getD i z=x:=by
 rw[List.getD_eq_getElem?_getD,List.getElem?_set_self h];rfl
def mkPair (k:Int):S87:=(⟨mtext (k),mtext (k+1),(Int.tmod (k+2) 3 == 0)⟩:S87)
def mkPairL (a:Int) (n:Nat):List S87:=(List.range n).map fun (i:Nat)=>mkPair (a+3*(i:Int))
theorem mkPairL_length (a:Int) (n:Nat):(mkPairL a n).length=n:=by simp[mkPairL]
theorem markPairS_ev (l:List S87) (a:Int) (ha:0≤a) (hb:a+3*(l.length:Int)≤4611686018427387904):Ev (fun k=>laws_markPairS.f k l a) (a+3*(l.length:Int),mkPairL a l.length):=by
 have hm:=mark_loop (fun k out s i=>laws_markPairS.l0 k out s i) l.length (fun i=>mkPair (a+3*(i:Int))) (fun i=>a+3*(i:Int)) (fun i out r hi hl h=>?_) (fun out hl=>?_) l rfl
 ·refine Ev.congr (fun k=>?_) hm;simp only[laws_markPairS.f];congr 1;simp
 ·(try dsimp only at h ⊢)
  obtain⟨K0,h0⟩:=markText_ev (a+3*(i:Int)) (by omega);obtain⟨K1,h1⟩:=markText_ev (a+3*(i:Int)+1) (by omega);refine Ev.round ⟨0+K0+K1,fun k hk=>?_⟩ h;have t0:=h0 k (by omega);have t1:=h1 k (by omega);dsimp only at t0 t1;have e1:((i:Int)<(out.length:Int))=True:=eq_true (by omega);have e2:(0≤(i:Int))=True:=eq_true (by omega);have ew:wrap64 ((i:Int)+1)=((i+1:Nat):Int):=wrap_succ (n:=l.length) hi (by omega);have w1:wrap64 (a+3*(i:Int)+1)=a+3*(i:Int)+1:=wrap_id (by omega) (by omega);have w2:wrap64 (a+3*(i:Int)+2)=a+3*(i:Int)+2:=wrap_id (by omega) (by omega);have w3:wrap64 (a+3*(i:Int)+3)=a+3*(i:Int)+3:=wrap_id (by omega) (by omega);have ad2:a+3*(i:Int)+1+1=a+3*(i:Int)+2:=by omega
  have ad3:a+3*(i:Int)+2+1=a+3*(i:Int)+3:=by omega
  have ae:a+3*(i:Int)+3=a+3*((i+1:Nat):Int):=by omega
  simp only[laws_markPairS.l0,e1,e2,if_true,t0,t1,Option.bind_some,w1,w2,ad2,w3,ad3,ew,rd_T87,Int.toNat_natCast,List.set_set,getD_set_eq _ _ (show i<out.length by omega)]
  (rw[ae])<;>rfl
 ·refine Ev.ends (fun k=>?_);simp only[laws_markPairS.l0];rw[if_neg (by omega)]
theorem heldPairS_ev (a:Int) (n:Nat) (ha:0≤a) (hb:a+3*(n:Int)≤4611686018427387904):Ev (fun k=>laws_heldPairS.f k (mkPairL a n) a) (a+3*(n:Int)):=by
 refine Ev.congr (fun k=>?_) (scan_loop (fun i k=>laws_heldPairS.l0 k (mkPairL a n) (a+3*(i:Int)) (i:Int)) n (a+3*(n:Int)) (fun i hi h=>?_) ?_)
 ·simp only[laws_heldPairS.f];congr 1;simp
 ·(try dsimp only at h ⊢)
  obtain⟨K0,h0⟩:=markText_ev (a+3*(i:Int)) (by omega);obtain⟨K1,h1⟩:=markText_ev (a+3*(i:Int)+1) (by omega);refine Ev.round ⟨0+K0+K1,fun k hk=>?_⟩ h;have t0:=h0 k (by omega);have t1:=h1 k (by omega);dsimp only at t0 t1;have e1:((i:Int)<(n:Int))=True:=eq_true (by omega);have e2:(0≤(i:Int))=True:=eq_true (by omega);have ew:wrap64 ((i:Int)+1)=((i+1:Nat):Int):=wrap_succ (n:=n) hi (by omega);have eg:(mkPairL a n).getD i z87=mkPair (a+3*(i:Int)):=range_map_getD n i _ _ hi;have w1:wrap64 (a+3*(i:Int)+1)=a+3*(i:Int)+1:=wrap_id (by omega) (by omega);have w2:wrap64 (a+3*(i:Int)+2)=a+3*(i:Int)+2:=wrap_id (by omega) (by omega);have w3:wrap64 (a+3*(i:Int)+3)=a+3*(i:Int)+3:=wrap_id (by omega) (by omega);have ad2:a+3*(i:Int)+1+1=a+3*(i:Int)+2:=by omega
  have ad3:a+3*(i:Int)+2+1=a+3*(i:Int)+3:=by omega
  have ae:a+3*(i:Int)+3=a+3*((i+1:Nat):Int):=by omega
  simp only[laws_heldPairS.l0,mkPairL_length,e1,e2,if_true,t0,t1,Option.bind_some,w1,w2,ad2,w3,ad3,ew,rd_T87,Int.toNat_natCast,eg,mkPair,bne_self_eq_false,Bool.false_eq_true,if_false]
  first|((rw[ae])<;>rfl)|(simp only[beq_self_eq_true,bne_self_eq_false,Bool.false_eq_true,if_false,if_true,ae])
 ·refine Ev.ends (fun k=>?_);simp only[laws_heldPairS.l0,mkPairL_length];rw[if_neg (by omega)]
def Both {α:Type} (P:α→Prop) (f g:Nat→Option α):Prop:=∃r,P r∧Ev f r∧Ev g r
namespace Both
variable {α β:Type} {P:α→Prop} {f f' g g':Nat→Option α}
theorem step (h1:∀k,f (k+1)=f' k) (h2:∀k,g (k+1)=g' k) (h:Both P f' g'):Both P f g:=by
 obtain⟨r,hp,a,b⟩:=h;exact⟨r,hp,Ev.step h1 a,Ev.step h2 b⟩
theorem left (h1:∀k,f (k+1)=f' k) (h:Both P f' g):Both P f g:=by
 obtain⟨r,hp,a,b⟩:=h;exact⟨r,hp,Ev.step h1 a,b⟩
theorem right (h2:∀k,g (k+1)=g' k) (h:Both P f g'):Both P f g:=by
 obtain⟨r,hp,a,b⟩:=h;exact⟨r,hp,a,Ev.step h2 b⟩
theorem ret (r:α) (h:P r):Both P (fun _=>some r) (fun _=>some r):=⟨r,h,Ev.now r,Ev.now r⟩
theorem ite {c:Prop} [Decidable c] (h1:c→Both P f g) (h2:¬c→Both P f' g'):Both P (fun k=>if c then f k else f' k) (fun k=>if c then g k else g' k):=by
 by_cases h:c
 ·simpa only [if_pos h] using h1 h
 ·simpa only [if_neg h] using h2 h
theorem bind {Q:β→Prop} {p q:Nat→Option β} {F G:Nat→β→Option α} (h:Both Q p q) (k:∀b,Q b→Both P (fun n=>F n b) (fun n=>G n b)):Both P (fun n=>(p n).bind (F n)) (fun n=>(q n).bind (G n)):=by
 obtain⟨b,hq,h1,h2⟩:=h;obtain⟨r,hp,a,c⟩:=k b hq;exact⟨r,hp,Ev.bind h1 a,Ev.bind h2 c⟩
theorem of {r:α} (h1:Ev f r) (h2:Ev g r) (hp:P r):Both P f g:=⟨r,hp,h1,h2⟩
theorem eq {r:α} (h1:Ev f r) (h2:Ev g r):Both (fun x=>x=r) f g:=⟨r,rfl,h1,h2⟩
theorem any {Q:α→Prop} (h:Both Q f g):Both (fun _=>True) f g:=by
 obtain⟨r,_,a,b⟩:=h;exact⟨r,trivial,a,b⟩
theorem mono {P':α→Prop} (h:Both P f g) (hi:∀r,P r→P' r):Both P' f g:=by
 obtain⟨r,hp,a,b⟩:=h;exact⟨r,hi r hp,a,b⟩
end Both
def Comes {α:Type} (P:α→Prop) (f:Nat→Option α):Prop:=∃r,P r∧Ev f r
namespace Comes
variable {α β:Type} {P:α→Prop} {f f':Nat→Option α}
theorem step (h1:∀k,f (k+1)=f' k) (h:Comes P f'):Comes P f:=by
 obtain⟨r,hp,a⟩:=h;exact⟨r,hp,Ev.step h1 a⟩
theorem ret (r:α) (h:P r):Comes P (fun _=>some r):=⟨r,h,Ev.now r⟩
theorem ite {c:Prop} [Decidable c] (h1:c→Comes P f) (h2:¬c→Comes P f'):Comes P (fun k=>if c then f k else f' k):=by
 by_cases h:c
 ·simpa only [if_pos h] using h1 h
 ·simpa only [if_neg h] using h2 h
theorem bind {Q:β→Prop} {p:Nat→Option β} {F:Nat→β→Option α} (h:Comes Q p) (k:∀b,Q b→Comes P (fun n=>F n b)):Comes P (fun n=>(p n).bind (F n)):=by
 obtain⟨b,hq,h1⟩:=h;obtain⟨r,hp,a⟩:=k b hq;exact⟨r,hp,Ev.bind h1 a⟩
theorem mono {P':α→Prop} (h:Comes P f) (hi:∀r,P r→P' r):Comes P' f:=by
 obtain⟨r,hp,a⟩:=h;exact⟨r,hi r hp,a⟩
theorem rounds (h:Comes P f):∃k r,f k=some r∧P r:=by
 obtain⟨r,hp,a⟩:=h;obtain⟨k,hk⟩:=a.rounds;exact⟨k,r,hk,hp⟩
theorem true_ {f:Nat→Option Bool} (h:Comes (fun b=>b=true) f):∃k,f k=some true:=by
 obtain⟨k,r,hk,rfl⟩:=h.rounds;exact⟨k,hk⟩
theorem some_ (o:Option α) (r:α) (h:o=some r) (hp:P r):Comes P (fun _=>o):=⟨r,hp,Ev.all (fun _=>h)⟩
end Comes
theorem common_both (a b:ByteArray) (hb:b.size≤1048576):Both (fun r=>0≤r∧r≤(b.size:Int)) (fun k=>spec_l5Common.f k a b) (fun k=>impl_common.f k a b):=by
 have key:∀(d i:Nat),i+d=b.size→Both (fun r=>0≤r∧r≤(b.size:Int)) (fun k=>spec_l5Common.l0 k a b (i:Int)) (fun k=>impl_common.l0 k a b (i:Int)):=by
  intro d
  induction d with
  |zero=>
   intro i hi;refine Both.step (fun k=>spec_l5Common.l0.eq_2 ..) (fun k=>impl_common.l0.eq_2 ..) ?_;have e1:((i:Int)<(b.size:Int))=False:=eq_false (by omega);simp only[e1,if_false];exact Both.ite (fun _=>Both.ret _ (by omega)) (fun _=>Both.ret _ (by omega))
  |succ d ih=>
   intro i hi;refine Both.step (fun k=>spec_l5Common.l0.eq_2 ..) (fun k=>impl_common.l0.eq_2 ..) ?_;have e1:((i:Int)<(b.size:Int))=True:=eq_true (by omega);have e2:(0≤(i:Int))=True:=eq_true (by omega);have ew:wrap64 ((i:Int)+1)=((i+1:Nat):Int):=wrap_succ (n:=b.size) (by omega) (by omega);simp only[e1,e2,if_true,ew];exact Both.ite (fun _=>Both.ite (fun _=>ih (i+1) (by omega)) (fun _=>Both.ret _ (by omega))) (fun _=>Both.ret _ (by omega))
 exact key b.size 0 (by omega)
theorem extract_le (s:ByteArray) (i:Nat):(s.extract i s.size).size≤s.size:=by
 rw[ByteArray.size_extract];omega
theorem wraps_i64 (n:Int) (h0:0≤n) (h1:n<2 ^ 63):IntKind.i64.wrap n=n:=by rw[IntKind.wrap_i64];omega
theorem and127 {x:Int} (h0:0≤x) (h1:x<9223372036854775808):Go.bits .and .i64 x 127=x % 128:=by
 have h:=bits_mask .i64 63 (by decide) wraps_i64 7 (by decide) x h0 (by omega);simpa using h
theorem or7 {x y:Int} (h0:0≤x) (h1:x<9223372036854775808) (hx:x % 128=0) (hy0:0≤y) (hy:y<128):Go.bits .or .i64 x y=x+y:=
 bits_join .i64 63 (by decide) wraps_i64 7 x y h0 (by simpa using hx) (by omega) hy0 (by omega) (by omega)
theorem or_128 {y:Int} (hy0:0≤y) (hy:y<128):Go.bits .or .i64 y 128=y+128:=by
 obtain⟨b,rfl⟩:=Int.eq_ofNat_of_zero_le hy0;have h:=(bits_nat .i64 63 (by decide) wraps_i64 b 128 (by omega) (by decide)).2;have h2:=Nat.two_pow_add_eq_or_of_lt (i:=7) (b:=b) (by omega) 1;rw[Nat.or_comm]at h2;have h3:Go.bits .or .i64 ((b:Nat):Int) 128=((b ||| 128:Nat):Int):=h;have h4:(b ||| 128:Nat)=128+b:=by simpa using h2.symm
 rw[h3,h4];omega
theorem shr_eq {x:Int} {s:Int} (j:Nat) (hs:s=(j:Int)) (hj:j≤64):shr .i64 x s=x / 2 ^ j:=by
 subst hs;unfold shr;rw[Int.toNat_natCast,Nat.min_eq_left (by simpa[IntKind.bits] using hj)]
def numB (n:Int):List Int:=
 if n<128 then [n % 128] else if n<16384 then [n / 128 % 128+128,n % 128] else if n<2097152 then [n / 16384 % 128+128,n / 128 % 128+128,n % 128]
 else if n<268435456 then [n / 2097152 % 128+128,n / 16384 % 128+128,n / 128 % 128+128,n % 128]
 else [n / 268435456 % 128+128,n / 2097152 % 128+128,n / 16384 % 128+128,n / 128 % 128+128,n % 128]
theorem numB_length (n:Int):1≤(numB n).length∧(numB n).length≤5:=by unfold numB;(repeat' split)<;>simp
def clampN (n:Int):Int:=if n>1000000000 then 1000000000 else if n<0 then 0 else n
theorem clampN_range (n:Int):0≤clampN n∧clampN n≤1000000000:=by unfold clampN;(repeat' split)<;>omega
theorem impl_put_l1 (n:Int) (h0:0≤n) (h1:n≤1000000000) (q:Nat) (out:List Int) (ho:out.length<140737488355328) (s:Nat) (hs0:0<s) (hs:s≤28) :
 impl_addNum.l1 (q+1) out n (s:Int)=impl_addNum.l1 q (out++[n / 2 ^ s % 128+128]) n ((s:Int)-7):=by
 have hp:0≤n / 2 ^ s∧n / 2 ^ s≤n:=⟨Int.ediv_nonneg h0 (Int.le_of_lt (Int.pow_pos (by decide))),Int.ediv_le_self _ h0⟩;simp only[impl_addNum.l1];rw[if_pos (by omega),if_pos (by omega),if_pos ho,shr_eq s rfl (by omega),and127 hp.1 (by omega),wrap_id (by omega) (by omega),wrap_id (by omega) (by omega)];congr 3;omega
theorem impl_put_end (n:Int) (h0:0≤n) (h1:n≤1000000000) (q:Nat) (out:List Int) (ho:out.length<140737488355328):impl_addNum.l1 (q+1) out n 0=some (out++[n % 128]):=by
 simp only[impl_addNum.l1];rw[if_neg (by omega),if_pos ho,and127 h0 (by omega)];congr 3;omega
theorem impl_put_l0 (n:Int) (h0:0≤n) (h1:n≤1000000000) (q:Nat) (out:List Int) (s:Nat) (hs:s≤28) :
 impl_addNum.l0 (q+1) out n (s:Int)=if n / 2 ^ s>127 then impl_addNum.l0 q out n ((s+7:Nat):Int) else impl_addNum.l1 q out n (s:Int):=by
 simp only[impl_addNum.l0];rw[if_pos (by omega),shr_eq s rfl (by omega),wrap_id (i:=(s:Int)+7) (by omega) (by omega)];rfl
theorem impl_addNum_at (n:Int) (out:List Int) (ho:out.length+5<140737488355328) (q:Nat):impl_addNum.f (q+12) out n=some (out++numB (clampN n)):=by
 have hc:=clampN_range n;have e:mx 0 (mn n 1000000000)=clampN n:=by unfold mx mn clampN;(repeat' split)<;>omega
 unfold impl_addNum.f;rw[e];generalize clampN n=m at hc
 obtain⟨h0,h1⟩:=hc;have l1:=fun q out ho s hs0 hs=>impl_put_l1 m h0 h1 q out ho s hs0 hs
 have l0:=fun q out s hs=>impl_put_l0 m h0 h1 q out s hs
 have en:=fun q out ho=>impl_put_end m h0 h1 q out ho
 unfold numB;rw[show (0:Int)=((0:Nat):Int) from rfl,l0 (q+11) out 0 (by omega)];by_cases c1:m<128
 ·rw[if_neg (by omega),if_pos c1];exact en (q+10) out (by omega)
 rw[if_pos (by omega),if_neg c1,l0 (q+10) out 7 (by omega)];by_cases c2:m<16384
 ·rw[if_neg (by omega),if_pos c2,l1 (q+9) out (by omega) 7 (by omega) (by omega)];have:=en (q+8) (out++[m / 2 ^ 7 % 128+128]) (by simp;omega);simpa using this
 rw[if_pos (by omega),if_neg c2,l0 (q+9) out 14 (by omega)];by_cases c3:m<2097152
 ·rw[if_neg (by omega),if_pos c3,l1 (q+8) out (by omega) 14 (by omega) (by omega)];have a:=l1 (q+7) (out++[m / 2 ^ 14 % 128+128]) (by simp;omega) 7 (by omega) (by omega);have b:=en (q+6) ((out++[m / 2 ^ 14 % 128+128])++[m / 2 ^ 7 % 128+128]) (by simp;omega);have a':impl_addNum.l1 (q+8) (out++[m / 2 ^ 14 % 128+128]) m (((14:Nat):Int)-7)=_:=a;rw[a'];have b':impl_addNum.l1 (q+7) ((out++[m / 2 ^ 14 % 128+128])++[m / 2 ^ 7 % 128+128]) m (((7:Nat):Int)-7)=_:=b;rw[b'];simp
 rw[if_pos (by omega),if_neg c3,l0 (q+8) out 21 (by omega)];by_cases c4:m<268435456
 ·rw[if_neg (by omega),if_pos c4,l1 (q+7) out (by omega) 21 (by omega) (by omega)];have a:=l1 (q+6) (out++[m / 2 ^ 21 % 128+128]) (by simp;omega) 14 (by omega) (by omega);have b:=l1 (q+5) ((out++[m / 2 ^ 21 % 128+128])++[m / 2 ^ 14 % 128+128]) (by simp;omega) 7 (by omega) (by omega);have c:=en (q+4) (((out++[m / 2 ^ 21 % 128+128])++[m / 2 ^ 14 % 128+128])++[m / 2 ^ 7 % 128+128]) (by simp;omega);have a':impl_addNum.l1 (q+7) (out++[m / 2 ^ 21 % 128+128]) m (((21:Nat):Int)-7)=_:=a;rw[a'];have b':impl_addNum.l1 (q+6) ((out++[m / 2 ^ 21 % 128+128])++[m / 2 ^ 14 % 128+128]) m (((14:Nat):Int)-7)=_:=b;rw[b'];have c':impl_addNum.l1 (q+5) (((out++[m / 2 ^ 21 % 128+128])++[m / 2 ^ 14 % 128+128])++[m / 2 ^ 7 % 128+128]) m (((7:Nat):Int)-7)=_:=c;rw[c'];simp
 rw[if_pos (by omega),if_neg c4,l0 (q+7) out 28 (by omega),if_neg (by omega),l1 (q+6) out (by omega) 28 (by omega) (by omega)];have a:=l1 (q+5) (out++[m / 2 ^ 28 % 128+128]) (by simp;omega) 21 (by omega) (by omega);have b:=l1 (q+4) ((out++[m / 2 ^ 28 % 128+128])++[m / 2 ^ 21 % 128+128]) (by simp;omega) 14 (by omega) (by omega);have c:=l1 (q+3) (((out++[m / 2 ^ 28 % 128+128])++[m / 2 ^ 21 % 128+128])++[m / 2 ^ 14 % 128+128]) (by simp;omega) 7 (by omega) (by omega);have d:=en (q+2) ((((out++[m / 2 ^ 28 % 128+128])++[m / 2 ^ 21 % 128+128])++[m / 2 ^ 14 % 128+128])++[m / 2 ^ 7 % 128+128]) (by simp;omega);have a':impl_addNum.l1 (q+6) (out++[m / 2 ^ 28 % 128+128]) m (((28:Nat):Int)-7)=_:=a;rw[a'];have b':impl_addNum.l1 (q+5) ((out++[m / 2 ^ 28 % 128+128])++[m / 2 ^ 21 % 128+128]) m (((21:Nat):Int)-7)=_:=b;rw[b'];have c':impl_addNum.l1 (q+4) (((out++[m / 2 ^ 28 % 128+128])++[m / 2 ^ 21 % 128+128])++[m / 2 ^ 14 % 128+128]) m (((14:Nat):Int)-7)=_:=c;rw[c'];have d':impl_addNum.l1 (q+3) ((((out++[m / 2 ^ 28 % 128+128])++[m / 2 ^ 21 % 128+128])++[m / 2 ^ 14 % 128+128])++[m / 2 ^ 7 % 128+128]) m (((7:Nat):Int)-7)=_:=d;rw[d'];simp
theorem impl_addNum_ev (n:Int) (out:List Int) (ho:out.length+5<140737488355328):Ev (fun k=>impl_addNum.f k out n) (out++numB (clampN n)):=
 ⟨12,fun k hk=>by obtain⟨q,rfl⟩:∃q,k=q+12:=⟨k-12,by omega⟩;exact impl_addNum_at n out ho q⟩
theorem wrap_u64 (s:Nat) (h:s≤64):IntKind.u64.wrap ((s:Nat):Int)=(s:Int):=by
 simp only[IntKind.wrap,IntKind.bits,IntKind.signed];simp;omega
theorem spec_put_step (n:Int) (h0:0≤n) (h1:n≤1000000000) (q:Nat) (out:List Int) (ho:out.length<140737488355328) (hi:Bool) (s:Nat) (hs0:0<s) (hs:s≤28) :
 spec_PutNum.l0 (q+1) n out hi (s:Int)=if hi=true∨n / 2 ^ s % 128>0 then spec_PutNum.l0 q n (out++[n / 2 ^ s % 128+128]) true ((s:Int)-7) else spec_PutNum.l0 q n out hi ((s:Int)-7):=by
 have hp:0≤n / 2 ^ s∧n / 2 ^ s≤n:=⟨Int.ediv_nonneg h0 (Int.le_of_lt (Int.pow_pos (by decide))),Int.ediv_le_self _ h0⟩;simp only[spec_PutNum.l0];rw[if_pos (by omega),wrap_u64 s (by omega),if_pos (by omega),shr_eq s rfl (by omega),and127 hp.1 (by omega),or_128 (by omega) (by omega),wrap_id (i:=(s:Int)-7) (by omega) (by omega),if_pos ho];have e:(n / 2 ^ s % 128+128) % 256=n / 2 ^ s % 128+128:=by omega
 rw[e];cases hi with
 |true=>rw[if_pos rfl,if_pos (.inl rfl)]
 |false=>
  rw[if_neg (by simp)];by_cases hg:n / 2 ^ s % 128>0
  ·rw[if_pos hg,if_pos (.inr hg)]
  ·rw[if_neg hg,if_neg (by simp;omega)]
theorem spec_put_end (n:Int) (h0:0≤n) (h1:n≤1000000000) (q:Nat) (out:List Int) (hi:Bool) (ho:out.length<140737488355328):spec_PutNum.l0 (q+1) n out hi 0=some (out++[n % 128]):=by
 simp only[spec_PutNum.l0];rw[if_neg (by omega),if_pos ho,and127 h0 (by omega)];congr 3;omega
def specP (n:Int) (out:List Int) (hi:Bool) (s:Nat):List Int × Bool:=if hi=true∨n / 2 ^ s % 128>0 then (out++[n / 2 ^ s % 128+128],true) else (out,hi)
theorem spec_put_step' (n:Int) (h0:0≤n) (h1:n≤1000000000) (q:Nat) (out:List Int) (ho:out.length<140737488355328) (hi:Bool) (s t:Nat) (hs0:0<s) (hs:s≤28) (ht:t+7=s) :
 spec_PutNum.l0 (q+1) n out hi (s:Int)=spec_PutNum.l0 q n (specP n out hi s).1 (specP n out hi s).2 (t:Int):=by
 rw[spec_put_step n h0 h1 q out ho hi s hs0 hs];have e:(s:Int)-7=(t:Int):=by omega
 rw[e];unfold specP;split<;>rfl
theorem specP_length (n:Int) (out:List Int) (hi:Bool) (s:Nat):(specP n out hi s).1.length≤out.length+1:=by unfold specP;split<;>simp
theorem spec_put_all (n:Int) (h0:0≤n) (h1:n≤1000000000) (q:Nat) (out:List Int) (ho:out.length+5<140737488355328):spec_PutNum.l0 (q+5) n out false 28=some (out++numB n):=by
 have l1:=specP_length n out false 28;have l2:=specP_length n (specP n out false 28).1 (specP n out false 28).2 21;have l3:=specP_length n (specP n (specP n out false 28).1 (specP n out false 28).2 21).1 (specP n (specP n out false 28).1 (specP n out false 28).2 21).2 14;have l4:=specP_length n (specP n (specP n (specP n out false 28).1 (specP n out false 28).2 21).1 (specP n (specP n out false 28).1 (specP n out false 28).2 21).2 14).1 (specP n (specP n (specP n out false 28).1 (specP n out false 28).2 21).1 (specP n (specP n out false 28).1 (specP n out false 28).2 21).2 14).2 7;have e1:spec_PutNum.l0 (q+5) n out false 28=_:=spec_put_step' n h0 h1 (q+4) out (by omega) false 28 21 (by omega) (by omega) rfl;rw[e1,spec_put_step' n h0 h1 (q+3) _ (by omega) _ 21 14 (by omega) (by omega) rfl,spec_put_step' n h0 h1 (q+2) _ (by omega) _ 14 7 (by omega) (by omega) rfl,spec_put_step' n h0 h1 (q+1) _ (by omega) _ 7 0 (by omega) (by omega) rfl];have e2:=spec_put_end n h0 h1 q (specP n (specP n (specP n (specP n out false 28).1 (specP n out false 28).2 21).1 (specP n (specP n out false 28).1 (specP n out false 28).2 21).2 14).1 (specP n (specP n (specP n out false 28).1 (specP n out false 28).2 21).1 (specP n (specP n out false 28).1 (specP n out false 28).2 21).2 14).2 7).1 (specP n (specP n (specP n (specP n out false 28).1 (specP n out false 28).2 21).1 (specP n (specP n out false 28).1 (specP n out false 28).2 21).2 14).1 (specP n (specP n (specP n out false 28).1 (specP n out false 28).2 21).1 (specP n (specP n out false 28).1 (specP n out false 28).2 21).2 14).2 7).2 (by omega);refine Eq.trans e2 ?_;congr 1;clear l1 l2 l3 l4 e1 e2;have t (hi:Bool) (o:List Int) (s:Nat) (h:n / 2 ^ s % 128>0):specP n o hi s=(o++[n / 2 ^ s % 128+128],true):=by unfold specP;rw[if_pos (.inr h)]
 have f (o:List Int) (s:Nat) (h:¬n / 2 ^ s % 128>0):specP n o false s=(o,false):=by unfold specP;rw[if_neg (by simp;omega)]
 have y (o:List Int) (s:Nat):specP n o true s=(o++[n / 2 ^ s % 128+128],true):=by unfold specP;rw[if_pos (.inl rfl)]
 unfold numB;by_cases c1:n<128
 ·rw[if_pos c1,f _ 28 (by omega),f _ 21 (by omega),f _ 14 (by omega),f _ 7 (by omega)]
 rw[if_neg c1];by_cases c2:n<16384
 ·rw[if_pos c2,f _ 28 (by omega),f _ 21 (by omega),f _ 14 (by omega),t _ _ 7 (by omega)];simp
 rw[if_neg c2];by_cases c3:n<2097152
 ·rw[if_pos c3,f _ 28 (by omega),f _ 21 (by omega),t _ _ 14 (by omega),y];simp
 rw[if_neg c3];by_cases c4:n<268435456
 ·rw[if_pos c4,f _ 28 (by omega),t _ _ 21 (by omega),y,y];simp
 rw[if_neg c4,t _ _ 28 (by omega),y,y,y];simp
theorem spec_putNum_ev (n:Int) (xs:List Int) (ho:xs.length+5<140737488355328):Ev (fun k=>spec_PutNum.f k xs n) (xs++numB (clampN n)):=by
 refine⟨12,fun k hk=>?_⟩;obtain⟨q,rfl⟩:∃q,k=q+12:=⟨k-12,by omega⟩;have hc:=clampN_range n;have ha:=spec_put_all (clampN n) hc.1 hc.2;dsimp only;simp only[spec_PutNum.f,Option.bind_some,List.nil_append,List.length_nil];rw[if_pos (by omega)]
 have hj:∀m,spec_PutNum.j0 (q+12) m xs=spec_PutNum.l0 (q+10) (if m<0 then 0 else m) xs false 28:=by
  intro m;simp only[spec_PutNum.j0];split<;>simp only[spec_PutNum.j1]
 rw[hj,hj];unfold clampN at ha ⊢;by_cases h1:n>1000000000
 ·rw[if_pos h1]at ha ⊢;rw[if_pos h1,if_neg (by omega)];exact ha (q+5) xs ho
 ·rw[if_neg h1]at ha ⊢;rw[if_neg h1];exact ha (q+5) xs ho
def BytesIn (b:List Int):Prop:=∀i:Int,0≤rd b i∧rd b i≤255
theorem bytesIn_of {b:List Int} (h:∀x ∈ b,(Lit.int .u8 x).wf=true):BytesIn b:=by
 intro i;unfold rd;rw[List.getD_eq_getElem?_getD];cases e:b[i.toNat]? with
 |none=>simp
 |some x=>exact wf_u8 (h x (List.mem_of_getElem? e))
theorem BytesIn.mem {b:List Int} (h:BytesIn b):∀x ∈ b,0≤x∧x≤255:=by
 intro x hx;obtain⟨i,hi,rfl⟩:=List.mem_iff_getElem.1 hx;have:=h (i:Int);simpa[rd,List.getD_eq_getElem?_getD,List.getElem?_eq_getElem hi] using this
theorem BytesIn.of_mem {b:List Int} (h:∀x ∈ b,0≤x∧x≤255):BytesIn b:=by
 intro i;unfold rd;rw[List.getD_eq_getElem?_getD];cases e:b[i.toNat]? with
 |none=>simp
 |some x=>exact h x (List.mem_of_getElem? e)
theorem BytesIn.nat {b:List Int} (h:BytesIn b):∀x ∈ b,x.toNat<4294967296:=fun x hx=>by have:=h.mem x hx;omega
theorem drop_cons_rd {b:List Int} {i:Nat} (h:i<b.length):b.drop i=rd b (i:Int)::b.drop (i+1):=by
 rw[List.drop_eq_getElem_cons h,rd_nat,List.getD_eq_getElem?_getD,List.getElem?_eq_getElem h];rfl
theorem ofInt64 (a:Nat) (ha:a<18446744073709551616):(BitVec.ofInt 64 (a:Int)).toNat=a:=by
 rw[BitVec.ofInt_natCast,BitVec.toNat_ofNat];exact Nat.mod_eq_of_lt (by omega)
theorem ofInt32 (a:Nat) (ha:a<4294967296):(BitVec.ofInt 32 (a:Int)).toNat=a:=by
 rw[BitVec.ofInt_natCast,BitVec.toNat_ofNat];exact Nat.mod_eq_of_lt (by omega)
theorem xor_i64 (a b:Nat) (ha:a<4294967296) (hb:b<4294967296):Go.bits .xor .i64 (a:Int) (b:Int)=((a ^^^ b:Nat):Int):=by
 have hx:a ^^^ b<2 ^ 32:=Nat.xor_lt_two_pow (by omega) (by omega);show IntKind.i64.wrap ((BitVec.ofInt 64 (a:Int) ^^^ BitVec.ofInt 64 (b:Int)).toNat:Int)=_;rw[BitVec.toNat_xor,ofInt64 a (by omega),ofInt64 b (by omega),IntKind.wrap_i64];omega
theorem xor_u32 (a b:Nat) (ha:a<4294967296) (hb:b<4294967296):Go.bits .xor .u32 (a:Int) (b:Int)=((a ^^^ b:Nat):Int):=by
 have hx:a ^^^ b<2 ^ 32:=Nat.xor_lt_two_pow (by omega) (by omega);show IntKind.u32.wrap ((BitVec.ofInt 32 (a:Int) ^^^ BitVec.ofInt 32 (b:Int)).toNat:Int)=_;rw[BitVec.toNat_xor,ofInt32 a ha,ofInt32 b hb,IntKind.wrap_u32];omega
theorem xor_i64' (a:Nat) (v:Int) (ha:a<4294967296) (h0:0≤v) (h1:v<4294967296):Go.bits .xor .i64 (a:Int) v=((a ^^^ v.toNat:Nat):Int):=by
 obtain⟨c,rfl⟩:=Int.eq_ofNat_of_zero_le h0;simpa using xor_i64 a c ha (by omega)
theorem and1_i64 (a:Nat) (ha:a<4294967296):Go.bits .and .i64 (a:Int) 1=((a % 2:Nat):Int):=by
 have h:=bits_mask .i64 63 (by decide) wraps_i64 1 (by decide) (a:Int) (by omega) (by omega);have h2:Go.bits .and .i64 (a:Int) 1=(a:Int) % 2:=by simpa using h
 rw[h2];omega
theorem wraps_u32 (n:Int) (h0:0≤n) (h1:n<2 ^ 32):IntKind.u32.wrap n=n:=by rw[IntKind.wrap_u32];omega
theorem and1_u32 (a:Nat) (ha:a<4294967296):Go.bits .and .u32 (a:Int) 1=((a % 2:Nat):Int):=by
 have h:=bits_mask .u32 32 (by decide) wraps_u32 1 (by decide) (a:Int) (by omega) (by omega);have h2:Go.bits .and .u32 (a:Int) 1=(a:Int) % 2:=by simpa using h
 rw[h2];omega
def crc1 (x:Nat):Nat:=if x % 2=1 then x / 2 ^^^ 2197175160 else x / 2
def crcR:Nat→Nat→Nat
 |0,x=>x
 |n+1,x=>crcR n (crc1 x)
def crcB (x c:Nat):Nat:=crcR 8 (x ^^^ c)
def crcL:List Int→Nat→Nat
 |[],x=>x
 |c::l,x=>crcL l (crcB x c.toNat)
def sumN (l:List Int):Int:=((crcL l 4294967295 ^^^ 4294967295:Nat):Int)
theorem xor32 {a b:Nat} (ha:a<4294967296) (hb:b<4294967296):a ^^^ b<4294967296:=by
 have:=Nat.xor_lt_two_pow (n:=32) (x:=a) (y:=b) (by omega) (by omega);omega
theorem crc1_lt {x:Nat} (h:x<4294967296):crc1 x<4294967296:=by
 unfold crc1;split
 ·exact xor32 (by omega) (by omega)
 ·omega
theorem crcR_lt:∀(n:Nat) {x:Nat},x<4294967296→crcR n x<4294967296
 |0,_,h=>h
 |n+1,_,h=>crcR_lt n (crc1_lt h)
theorem crcB_lt {x c:Nat} (h:x<4294967296) (hc:c<4294967296):crcB x c<4294967296:=crcR_lt 8 (xor32 h hc)
theorem crcL_lt:∀(l:List Int),(∀c ∈ l,c.toNat<4294967296)→∀ {x:Nat},x<4294967296→crcL l x<4294967296
 |[],_,_,h=>h
 |c::l,hl,_,h=>crcL_lt l (fun d hd=>hl d (List.mem_cons_of_mem _ hd)) (crcB_lt h (hl c List.mem_cons_self))
theorem sumN_range {l:List Int} (h:∀c ∈ l,c.toNat<4294967296):0≤sumN l∧sumN l≤4294967295:=by
 have:=xor32 (crcL_lt l h (x:=4294967295) (by omega)) (b:=4294967295) (by omega);unfold sumN;omega
theorem spec_sum_l1 (b:List Int) (i:Nat) (r:Int) (hi:i<281474976710656):∀(d x j:Nat),j+d=8→x<4294967296→Ev (fun q=>spec_Sum.l0 q b ((crcR d x:Nat):Int) ((i+1:Nat):Int)) r →
 Ev (fun q=>spec_Sum.l1 q b (x:Int) (i:Int) (j:Int)) r:=by
 intro d
 induction d with
 |zero=>
  intro x j hj hx h;refine Ev.step (f:=fun q=>spec_Sum.l0 q b (x:Int) ((i+1:Nat):Int)) (fun q=>?_) h;simp only[spec_Sum.l1];rw[if_neg (by omega),wrap_id (i:=(i:Int)+1) (by omega) (by omega)];rfl
 |succ d ih=>
  intro x j hj hx h;refine Ev.step (f:=fun q=>spec_Sum.l1 q b ((crc1 x:Nat):Int) (i:Int) ((j+1:Nat):Int)) (fun q=>?_) (ih (crc1 x) (j+1) (by omega) (crc1_lt hx) h);simp only[spec_Sum.l1];have hd:(x:Int) / 2=((x / 2:Nat):Int):=by omega
  rw[if_pos (by omega),and1_i64 x hx,hd,wrap_id (i:=(j:Int)+1) (by omega) (by omega)];have e2:(2197175160:Int)=((2197175160:Nat):Int):=rfl;rw[e2,xor_i64 (x / 2) 2197175160 (by omega) (by omega)];unfold crc1;by_cases h1:x % 2=1
  ·rw[if_pos h1,if_pos (by omega)];rfl
  ·rw[if_neg h1,if_neg (by omega)];rfl
theorem spec_sum_l0 (b:List Int) (hb:BytesIn b) (hn:b.length<281474976710656):∀(d x i:Nat),i+d=b.length→x<4294967296→Ev (fun q=>spec_Sum.l0 q b (x:Int) (i:Int)) ((crcL (b.drop i) x ^^^ 4294967295:Nat):Int):=by
 intro d
 induction d with
 |zero=>
  intro x i hi hx;rw[List.drop_eq_nil_of_le (by omega)];refine Ev.step (f:=fun _=>some _) (fun q=>?_) (Ev.now _);simp only[spec_Sum.l0];rw[if_neg (by omega)];have e2:(4294967295:Int)=((4294967295:Nat):Int):=rfl;rw[e2,xor_i64 x 4294967295 hx (by omega)];rfl
 |succ d ih=>
  intro x i hi hx;have hc:=hb (i:Int);rw[drop_cons_rd (by omega)];have hy:x ^^^ (rd b (i:Int)).toNat<4294967296:=xor32 hx (by omega);refine Ev.step (f:=fun q=>spec_Sum.l1 q b ((x ^^^ (rd b (i:Int)).toNat:Nat):Int) (i:Int) ((0:Nat):Int)) (fun q=>?_) (spec_sum_l1 b i _ (by omega) 8 _ 0 rfl hy (ih _ (i+1) (by omega) (crcR_lt 8 hy)));simp only[spec_Sum.l0];rw[if_pos (by omega),if_pos (by omega),wrap_id (i:=rd b (i:Int)) (by omega) (by omega),xor_i64' x _ hx (by omega) (by omega)];rfl
theorem spec_sum_ev (b:List Int) (hb:BytesIn b) (hn:b.length<281474976710656):Ev (fun q=>spec_Sum.f q b) (sumN b):=
 spec_sum_l0 b hb hn b.length 4294967295 0 (by omega) (by omega)
theorem impl_sum_l1 (b:List Int) (n:Int) (i:Nat) (r:Int) (hi:i<281474976710656):∀(d x j:Nat),j+d=8→x<4294967296→Ev (fun q=>impl_Sum.l0 q ((crcR d x:Nat):Int) b n ((i+1:Nat):Int)) r →
 Ev (fun q=>impl_Sum.l1 q (x:Int) b n (i:Int) (j:Int)) r:=by
 intro d
 induction d with
 |zero=>
  intro x j hj hx h;refine Ev.step (f:=fun q=>impl_Sum.l0 q (x:Int) b n ((i+1:Nat):Int)) (fun q=>?_) h;simp only[impl_Sum.l1];rw[if_neg (by omega),wrap_id (i:=(i:Int)+1) (by omega) (by omega)];rfl
 |succ d ih=>
  intro x j hj hx h;refine Ev.step (f:=fun q=>impl_Sum.l1 q ((crc1 x:Nat):Int) b n (i:Int) ((j+1:Nat):Int)) (fun q=>?_) (ih (crc1 x) (j+1) (by omega) (crc1_lt hx) h);simp only[impl_Sum.l1];have hd:(x:Int) / 2=((x / 2:Nat):Int):=by omega
  rw[if_pos (by omega),and1_u32 x hx,hd,wrap_id (i:=(j:Int)+1) (by omega) (by omega)];have e2:(2197175160:Int)=((2197175160:Nat):Int):=rfl;rw[e2,xor_u32 (x / 2) 2197175160 (by omega) (by omega)];unfold crc1;by_cases h1:x % 2=1
  ·rw[if_pos h1,if_pos (by omega)];rfl
  ·rw[if_neg h1,if_neg (by omega)];rfl
theorem impl_sum_l0 (b:List Int) (hb:BytesIn b) (hn:b.length<281474976710656):∀(d x i:Nat),i+d=b.length→x<4294967296→Ev (fun q=>impl_Sum.l0 q (x:Int) b (b.length:Int) (i:Int)) ((crcL (b.drop i) x ^^^ 4294967295:Nat):Int):=by
 intro d
 induction d with
 |zero=>
  intro x i hi hx;rw[List.drop_eq_nil_of_le (by omega)];refine Ev.step (f:=fun _=>some _) (fun q=>?_) (Ev.now _);simp only[impl_Sum.l0];rw[if_neg (by omega)];have e2:(4294967295:Int)=((4294967295:Nat):Int):=rfl;have hy:=xor32 (a:=4294967295) (b:=x) (by omega) hx;rw[e2,xor_u32 4294967295 x (by omega) hx,wrap_id (by omega) (by omega),Nat.xor_comm];rfl
 |succ d ih=>
  intro x i hi hx;have hc:=hb (i:Int);rw[drop_cons_rd (by omega)];have hcn:rd b (i:Int) % 4294967296=(((rd b (i:Int)).toNat:Nat):Int):=by omega
  have hy:x ^^^ (rd b (i:Int)).toNat<4294967296:=xor32 hx (by omega);refine Ev.step (f:=fun q=>impl_Sum.l1 q ((x ^^^ (rd b (i:Int)).toNat:Nat):Int) b (b.length:Int) (i:Int) ((0:Nat):Int)) (fun q=>?_) (impl_sum_l1 b _ i _ (by omega) 8 _ 0 rfl hy (ih _ (i+1) (by omega) (crcR_lt 8 hy)));simp only[impl_Sum.l0];rw[if_pos (by omega),if_pos (by omega),if_pos (by omega),hcn,xor_u32 x _ hx (by omega)];rfl
theorem impl_sum_ev (b:List Int) (hb:BytesIn b) (hn:b.length<281474976710656):Ev (fun q=>impl_Sum.f q b) (sumN b):=
 impl_sum_l0 b hb hn b.length 4294967295 0 (by omega) (by omega)
def fourB (a:Int):List Int:=[a / 16777216 % 256,a / 65536 % 256,a / 256 % 256,a % 256]
def frameB (l:List Int):List Int:=fourB (sumN l)++(numB (clampN (l.length:Int))++l)
theorem frameB_length (l:List Int):(frameB l).length=4+(numB (clampN (l.length:Int))).length+l.length:=by
 unfold frameB fourB;simp;omega
theorem spec_frame_ev (l:List Int) (hb:BytesIn l) (hn:l.length≤140737488000000):Ev (fun k=>spec_Frame.f k l) (frameB l):=by
 obtain⟨K1,h1⟩:=spec_sum_ev l hb (by omega);obtain⟨K2,h2⟩:=spec_putNum_ev (l.length:Int) (fourB (sumN l)) (by unfold fourB;simp);have hl:=numB_length (clampN (l.length:Int));dsimp only at h1 h2;refine⟨K1+K2,fun k hk=>?_⟩;simp only[spec_Frame.f,spec_l1Four.f];rw[h1 k (by omega),Option.bind_some,Option.bind_some];have h2:=h2 k (by omega);unfold fourB at h2;rw[h2,Option.bind_some,if_pos (by rw[List.length_append];simp;omega),List.append_assoc];rfl
theorem impl_frame_ev (l:List Int) (hb:BytesIn l) (hn:l.length≤140737488000000):Ev (fun k=>impl_Frame.f k l) (frameB l):=by
 obtain⟨K1,h1⟩:=impl_sum_ev l hb (by omega);obtain⟨K2,h2⟩:=impl_addNum_ev (l.length:Int) (fourB (sumN l)) (by unfold fourB;simp);have hl:=numB_length (clampN (l.length:Int));dsimp only at h1 h2;refine⟨K1+K2,fun k hk=>?_⟩;simp only[impl_Frame.f,impl_word.f];rw[h1 k (by omega),Option.bind_some,Option.bind_some];have h2:=h2 k (by omega);unfold fourB at h2;rw[h2,Option.bind_some,if_pos (by rw[List.length_append];simp;omega),List.append_assoc];rfl
def textB (s:ByteArray):List Int:=numB (clampN (s.size:Int))++bytesOf s
theorem textB_length (s:ByteArray):(textB s).length≤s.size+5:=by
 have:=numB_length (clampN (s.size:Int));unfold textB;rw[List.length_append,bytesOf_length];omega
theorem spec_putText_ev (s:ByteArray) (xs:List Int) (ho:xs.length+s.size+10<140737488355328):Ev (fun k=>spec_PutText.f k xs s) (xs++textB s):=by
 obtain⟨K,h⟩:=spec_putNum_ev (s.size:Int) xs (by omega);have hl:=numB_length (clampN (s.size:Int));dsimp only at h;refine⟨K,fun k hk=>?_⟩;simp only[spec_PutText.f];rw[h k hk,Option.bind_some,if_pos (by rw[List.length_append];omega),List.append_assoc];rfl
theorem impl_addText_ev (s:ByteArray) (xs:List Int) (ho:xs.length+s.size+10<140737488355328):Ev (fun k=>impl_addText.f k xs s) (xs++textB s):=by
 obtain⟨K,h⟩:=impl_addNum_ev (s.size:Int) xs (by omega);have hl:=numB_length (clampN (s.size:Int));dsimp only at h;refine⟨K,fun k hk=>?_⟩;simp only[impl_addText.f];rw[h k hk,Option.bind_some,if_pos (by rw[List.length_append];omega),List.append_assoc];rfl
theorem BytesIn.set {l:List Int} (h:BytesIn l) (i:Nat) (x:Int) (h0:0≤x) (h1:x≤255):BytesIn (l.set i x):=by
 apply BytesIn.of_mem;intro y hy
 rcases List.mem_or_eq_of_mem_set hy with hm|rfl
 ·exact h.mem y hm
 ·exact⟨h0,h1⟩
theorem BytesIn.append {l m:List Int} (h:BytesIn l) (h':BytesIn m):BytesIn (l++m):=by
 apply BytesIn.of_mem;intro y hy
 rcases List.mem_append.1 hy with hm|hm
 ·exact h.mem y hm
 ·exact h'.mem y hm
theorem BytesIn.nil:BytesIn []:=BytesIn.of_mem (by simp)
theorem BytesIn.one {x:Int} (h0:0≤x) (h1:x≤255):BytesIn [x]:=BytesIn.of_mem (by intro y hy;rw[List.mem_singleton]at hy;subst hy;exact⟨h0,h1⟩)
theorem bytesOf_in (s:ByteArray):BytesIn (bytesOf s):=by
 apply BytesIn.of_mem;intro x hx;simp only[bytesOf,List.mem_map]at hx;obtain⟨b,_,rfl⟩:=hx;have:=b.toNat_lt;omega
theorem numB_in (n:Int) (h0:0≤n) (h1:n≤1000000000):BytesIn (numB n):=by
 apply BytesIn.of_mem;unfold numB;intro x hx
 (repeat' split at hx)<;>simp only[List.mem_cons,List.not_mem_nil,or_false]at hx<;>omega
theorem numC_in (n:Int):BytesIn (numB (clampN n)):=numB_in _ (clampN_range n).1 (clampN_range n).2
theorem textB_in (s:ByteArray):BytesIn (textB s):=(numC_in _).append (bytesOf_in s)
theorem fourB_in (a:Int):BytesIn (fourB a):=by
 apply BytesIn.of_mem;unfold fourB;intro x hx;simp only[List.mem_cons,List.not_mem_nil,or_false]at hx;omega
theorem frameB_in {l:List Int} (h:BytesIn l):BytesIn (frameB l):=(fourB_in _).append ((numC_in _).append h)
theorem frameB_le (l:List Int):(frameB l).length≤l.length+9:=by
 have:=frameB_length l;have:=numB_length (clampN (l.length:Int));omega
def SizesIn (l:List S87):Prop:=∀x ∈ l,x.f0.size≤1048576∧x.f1.size≤1048576
theorem SizesIn.at {l:List S87} (h:SizesIn l) (i:Nat) (hi:i<l.length):(rd_T87 l (i:Int)).f0.size≤1048576∧(rd_T87 l (i:Int)).f1.size≤1048576:=by
 apply h;simp only[rd_T87,Int.toNat_natCast];rw[List.getD_eq_getElem?_getD,List.getElem?_eq_getElem hi];exact List.getElem_mem _
theorem block_both (xs:List S87) (hn:xs.length≤1048576) (hs:SizesIn xs):Both (fun r=>BytesIn r∧r.length≤xs.length*2097200+9) (fun k=>spec_l5Block.f k xs) (fun k=>impl_putBlock.f k xs):=by
 have key:∀(d i:Nat) (out:List Int) (pv:ByteArray),i+d=xs.length→BytesIn out→out.length≤i*2097200→Both (fun r=>BytesIn r∧r.length≤xs.length*2097200+9) (fun k=>spec_l5Block.l0 k xs out pv (i:Int)) (fun k=>impl_putBlock.l0 k out pv xs (xs.length:Int) (i:Int)):=by
  intro d
  induction d with
  |zero=>
   intro i out pv hi ho hl;refine Both.step (fun k=>spec_l5Block.l0.eq_2 ..) (fun k=>impl_putBlock.l0.eq_2 ..) ?_;have e1:((i:Int)<(xs.length:Int))=False:=eq_false (by omega);simp only[e1,if_false];have:=frameB_le out
   exact Both.bind (Both.eq (spec_frame_ev out ho (by omega)) (impl_frame_ev out ho (by omega))) (fun r hr=>by
    (try dsimp only at hr)
    subst hr;exact Both.ret _ ⟨frameB_in ho,by omega⟩)
  |succ d ih=>
   intro i out pv hi ho hl;refine Both.step (fun k=>spec_l5Block.l0.eq_2 ..) (fun k=>impl_putBlock.l0.eq_2 ..) ?_;have e1:((i:Int)<(xs.length:Int))=True:=eq_true (by omega);have e2:(0≤(i:Int))=True:=eq_true (by omega);have ew:wrap64 ((i:Int)+1)=((i+1:Nat):Int):=wrap_succ (n:=xs.length) (by omega) (by omega);have hz:=hs.at i (by omega);simp only[e1,e2,if_true,ew];generalize rd_T87 xs (i:Int)=x at hz
   refine Both.bind (common_both pv x.f0 hz.1) (fun c hc=>?_);refine Both.bind (Both.eq (spec_putNum_ev c out (by omega)) (impl_addNum_ev c out (by omega))) (fun t ht=>?_)
   (try dsimp only at ht)
   have nl:=numB_length (clampN c);have tl:t.length≤out.length+5:=by rw[ht,List.length_append];omega
   have tin:BytesIn t:=by rw[ht];exact ho.append (numC_in c)
   have c1:(0≤c)=True:=eq_true hc.1;have c2:(c≤(x.f0.size:Int))=True:=eq_true hc.2;simp only[c1,c2,if_true];have xl:=extract_le x.f0 c.toNat;refine Both.bind (Both.eq (spec_putText_ev (x.f0.extract c.toNat x.f0.size) t (by omega)) (impl_addText_ev (x.f0.extract c.toNat x.f0.size) t (by omega))) (fun u hu=>?_)
   (try dsimp only at hu)
   have ul:u.length≤t.length+(x.f0.size+5):=by
    have:=textB_length (x.f0.extract c.toNat x.f0.size);rw[hu,List.length_append];omega
   have uin:BytesIn u:=by rw[hu];exact tin.append (textB_in _)
   have u1:(u.length<140737488355328)=True:=eq_true (by omega)
   have fin:∀b:Int,0≤b→b≤1→Both (fun r=>BytesIn r∧r.length≤xs.length*2097200+9) (fun k=>(spec_PutText.f k (u++[b]) x.f1).bind fun t181=>(spec_l5Block.l0 k xs t181 x.f0 ((i+1:Nat):Int))) (fun k=>(impl_addText.f k (u++[b]) x.f1).bind fun t339=>(impl_putBlock.l0 k t339 x.f0 xs (xs.length:Int) ((i+1:Nat):Int))):=by
    intro b b0 b1;have bl:(u++[b]).length=u.length+1:=by simp
    refine Both.bind (Both.eq (spec_putText_ev x.f1 (u++[b]) (by omega)) (impl_addText_ev x.f1 (u++[b]) (by omega))) (fun v hv=>?_)
    (try dsimp only at hv)
    have vl:v.length≤u.length+1+(x.f1.size+5):=by
     have:=textB_length x.f1;rw[hv,List.length_append];omega
    refine ih (i+1) v x.f0 (by omega) (by rw[hv];exact(uin.append (BytesIn.one b0 (by omega))).append (textB_in _)) (by omega)
   by_cases hf:x.f2=true
   ·simp only[hf,impl_bit.f,u1,if_true,Option.bind_some];exact fin 1 (by omega) (by omega)
   ·simp only[hf,impl_bit.f,u1,if_true,if_false,Bool.false_eq_true,Option.bind_some];exact fin 0 (by omega) (by omega)
 exact key xs.length 0 [] _ (by omega) BytesIn.nil (by simp)
theorem l1In_eq (a b c:Int):spec_l1In.f a b c=some (decide (b≤a)&&decide (a≤c)):=by
 unfold spec_l1In.f;by_cases h:a≥b
 ·rw[if_pos h,decide_eq_true (show b≤a from h),Bool.true_and]
 ·rw[if_neg h,decide_eq_false (show ¬b≤a from h),Bool.false_and]
theorem in_eq (a b c:Int):impl_in.f a b c=some (decide (b≤a)&&decide (a≤c)):=by
 unfold impl_in.f;by_cases h:a≥b
 ·rw[if_pos h,decide_eq_true (show b≤a from h),Bool.true_and]
 ·rw[if_neg h,decide_eq_false (show ¬b≤a from h),Bool.false_and]
theorem ite_and (a b:Bool):(if a=true then some b else some false)=some (a&&b):=by cases a<;>rfl
theorem ite_some {c:Prop} [Decidable c] (a b:Bool):(if c then some a else some b)=some (if c then a else b):=by split<;>rfl
theorem neq_self (b:Bool):(if (b != b)=true then (some false:Option Bool) else some true)=some true:=by cases b<;>rfl
theorem pairOk_eq (a b:ByteArray) (c:Bool):impl_PairOk.f a b c=spec_PairOk.f a b c:=by
 simp only[impl_PairOk.f,spec_PairOk.f,impl_keyOk.f,in_eq,l1In_eq,Option.bind_some]
theorem pairOk_some (a b:ByteArray) (c:Bool):∃r,spec_PairOk.f a b c=some r:=by
 simp only[spec_PairOk.f,l1In_eq,Option.bind_some]
 (repeat' split)<;>exact⟨_,rfl⟩
theorem rising_both (xs:List S87) (hn:xs.length≤1099511627776):Both (fun _=>True) (fun k=>spec_l4Rising.f k xs) (fun k=>impl_rising.f k xs):=by
 have key:∀(d i:Nat),i+d=xs.length→Both (fun _=>True) (fun k=>spec_l4Rising.l0 k xs (i:Int)) (fun k=>impl_rising.l0 k xs xs (xs.length:Int) (i:Int)):=by
  intro d
  induction d with
  |zero=>
   intro i hi;refine Both.step (fun k=>spec_l4Rising.l0.eq_2 ..) (fun k=>impl_rising.l0.eq_2 ..) ?_;have e1:((i:Int)<(xs.length:Int))=False:=eq_false (by omega);simp only[e1,if_false];exact Both.ret _ trivial
  |succ d ih=>
   intro i hi;refine Both.step (fun k=>spec_l4Rising.l0.eq_2 ..) (fun k=>impl_rising.l0.eq_2 ..) ?_;have e1:((i:Int)<(xs.length:Int))=True:=eq_true (by omega);have e2:(0≤(i:Int))=True:=eq_true (by omega);simp only[e1,e2,if_true,pairOk_eq];obtain⟨b,hb⟩:=pairOk_some (rd_T87 xs (i:Int)).f0 (rd_T87 xs (i:Int)).f1 (rd_T87 xs (i:Int)).f2;have ew:wrap64 ((i:Int)+1)=((i+1:Nat):Int):=wrap_succ (n:=xs.length) (by omega) (by omega);simp only[hb,Option.bind_some,ew];refine Both.ite (fun _=>Both.ite (fun hp=>?_) (fun _=>ih (i+1) (by omega))) (fun _=>Both.ret _ trivial);have ew2:wrap64 ((i:Int)-1)=(i:Int)-1:=wrap_id (by omega) (by omega);have e3:(0≤(i:Int)-1)=True:=eq_true (by omega);have e4:((i:Int)-1<(xs.length:Int))=True:=eq_true (by omega);simp only[ew2,e3,e4,if_true];exact Both.ite (fun _=>ih (i+1) (by omega)) (fun _=>Both.ret _ trivial)
 exact key xs.length 0 (by omega)
def markR (s:ByteArray):Int × Int:=(sumN (bytesOf s) % 64,sumN (bytesOf s) / 64 % 64)
theorem markR_range (s:ByteArray):0≤(markR s).1∧(markR s).1<64∧0≤(markR s).2∧(markR s).2<64:=by unfold markR;dsimp only;omega
theorem mark_arith {t:Int} (h0:0≤t) (h1:t≤4294967295):(Int.tmod t 64,Int.tmod (wrap64 (Int.tdiv t 64)) 64)=(t % 64,t / 64 % 64):=by
 rw[Int.tmod_eq_emod_of_nonneg h0,Int.tdiv_eq_ediv_of_nonneg h0,wrap_id (by omega) (by omega),Int.tmod_eq_emod_of_nonneg (by omega)]
theorem spec_mark_ev (s:ByteArray) (h:s.size<281474976710656):Ev (fun k=>spec_Mark.f k s) (markR s):=by
 obtain⟨K,h2⟩:=spec_sum_ev (bytesOf s) (bytesOf_in s) (by rw[bytesOf_length];omega);have hr:=sumN_range (bytesOf_in s).nat;dsimp only at h2;refine⟨K,fun k hk=>?_⟩;simp only[spec_Mark.f];rw[if_pos (by omega),h2 k hk,Option.bind_some,mark_arith hr.1 hr.2];rfl
theorem impl_mark_ev (s:ByteArray) (h:s.size<281474976710656):Ev (fun k=>impl_Mark.f k s) (markR s):=by
 obtain⟨K,h2⟩:=impl_sum_ev (bytesOf s) (bytesOf_in s) (by rw[bytesOf_length];omega);have hr:=sumN_range (bytesOf_in s).nat;dsimp only at h2;refine⟨K,fun k hk=>?_⟩;simp only[impl_Mark.f];rw[if_pos (by omega),h2 k hk,Option.bind_some,mark_arith hr.1 hr.2];rfl
theorem div8 {t:Int} (h0:0≤t) (h1:t<64):wrap64 (Int.tdiv t 8)=t / 8:=by
 rw[Int.tdiv_eq_ediv_of_nonneg h0,wrap_id (by omega) (by omega)]
theorem mod8 {t:Int} (h0:0≤t):Int.tmod t 8=t % 8:=Int.tmod_eq_emod_of_nonneg h0
theorem u64_small {t:Int} (h0:0≤t) (h1:t<64):IntKind.u64.wrap t=t:=by
 simp only[IntKind.wrap,IntKind.bits,IntKind.signed];simp;omega
theorem filterb_both (xs:List ByteArray) (hn:xs.length≤1048576) (hs:∀x ∈ xs,x.size≤1048576):Both (fun r=>r.length=8∧BytesIn r) (fun k=>spec_Filter.f k xs) (fun k=>impl_Filter.f k xs):=by
 have key:∀(d i:Nat) (out:List Int),i+d=xs.length→out.length=8→BytesIn out→Both (fun r=>r.length=8∧BytesIn r) (fun k=>spec_Filter.l0 k xs out (i:Int)) (fun k=>impl_Filter.l0 k out xs (xs.length:Int) (i:Int)):=by
  intro d
  induction d with
  |zero=>
   intro i out hi ho hob;refine Both.step (fun k=>spec_Filter.l0.eq_2 ..) (fun k=>impl_Filter.l0.eq_2 ..) ?_;have e1:((i:Int)<(xs.length:Int))=False:=eq_false (by omega);simp only[e1,if_false];exact Both.ret _ ⟨ho,hob⟩
  |succ d ih=>
   intro i out hi ho hob;refine Both.step (fun k=>spec_Filter.l0.eq_2 ..) (fun k=>impl_Filter.l0.eq_2 ..) ?_;have e1:((i:Int)<(xs.length:Int))=True:=eq_true (by omega);have e2:(0≤(i:Int))=True:=eq_true (by omega);have ew:wrap64 ((i:Int)+1)=((i+1:Nat):Int):=wrap_succ (n:=xs.length) (by omega) (by omega);have eg:rdOf ByteArray.empty xs (i:Int)=xs.getD i ByteArray.empty:=by simp[rdOf]
   have hm:(xs.getD i ByteArray.empty).size≤1048576:=hs _ (by
    rw[List.getD_eq_getElem?_getD,List.getElem?_eq_getElem (show i<xs.length by omega)];exact List.getElem_mem _)
   simp only[e1,e2,if_true,ew,eg,Option.bind_some];refine Both.bind (Both.eq (spec_mark_ev _ (by omega)) (impl_mark_ev _ (by omega))) (fun b hb=>?_);obtain⟨r1,r2,r3,r4⟩:=markR_range (xs.getD i ByteArray.empty);rw[←hb]at r1 r2 r3 r4;have q1:(0≤b.1 / 8)=True:=eq_true (by omega);have q2:(b.1 / 8<(out.length:Int))=True:=eq_true (by omega);have q3:(0≤b.1 % 8)=True:=eq_true (by omega);have q4:(0≤b.2 / 8)=True:=eq_true (by omega);have q5:(b.2 / 8<(out.length:Int))=True:=eq_true (by omega);have q6:(0≤b.2 % 8)=True:=eq_true (by omega);have d1:=div8 r1 r2;have d2:=div8 r3 r4;have m1:=mod8 r1;have m2:=mod8 r3;have u1:=u64_small (t:=b.1 % 8) (by omega) (by omega);have u2:=u64_small (t:=b.2 % 8) (by omega) (by omega);simp only[d1,d2,m1,m2,u1,u2,q1,q2,q3,q4,q5,q6,if_true];exact ih (i+1) _ (by omega) (by simp[ho]) ((hob.set _ _ (bits_lo_u8 ..) (bits_hi_u8 ..)).set _ _ (bits_lo_u8 ..) (bits_hi_u8 ..))
 have h8:(8≤281474976710656)=True:=eq_true (by omega);simp only[spec_Filter.f,impl_Filter.f,h8,if_true];exact key xs.length 0 _ (by omega) (by simp) (BytesIn.of_mem (by intro x hx;rw[List.mem_replicate]at hx;omega))
def TabOk (n:Nat) (r:List Int):Prop:=BytesIn r∧r.length≤1000000000000∧(r=[]∨(n≤200∧∃(out idx:List Int) (c:Int),0≤c∧c≤60∧BytesIn idx∧r=(out++frameB (numB (clampN c)++idx))++fourB (out.length:Int)))
theorem SizesIn.cut {l:List S87} (h:SizesIn l) (a b:Nat):SizesIn ((l.take b).drop a):=fun x hx=>h x (List.mem_of_mem_take (List.mem_of_mem_drop hx))
theorem rd_cut (l:List S87) (a b i:Nat) (hi:a+i<b):rd_T87 ((l.take b).drop a) (i:Int)=rd_T87 l ((a+i:Nat):Int):=by
 simp only[rd_T87,Int.toNat_natCast,List.getD_eq_getElem?_getD,List.getElem?_drop,List.getElem?_take,if_pos hi]
theorem table_end (xs:List S87) (hn:xs.length≤200) (hs:SizesIn xs) (out idx:List Int) (ho:BytesIn out) (hi:BytesIn idx) (lo:out.length≤100000000000) (li:idx.length≤100000000000) (c:Int) (hc0:0≤c) (hc:c≤60) :
 Both (TabOk xs.length) (fun k=>spec_PutTable.l1 k xs out [] idx c 0) (fun k=>impl_PutTable.l1 k out idx [] c xs (xs.length:Int) 0):=by
 have key:∀(d i:Nat) (ks:List ByteArray),i+d=xs.length→ks.length=i→(∀x ∈ ks,x.size≤1048576)→Both (TabOk xs.length) (fun k=>spec_PutTable.l1 k xs out ks idx c (i:Int)) (fun k=>impl_PutTable.l1 k out idx ks c xs (xs.length:Int) (i:Int)):=by
  intro d
  induction d with
  |zero=>
   intro i ks hi' hk hz;refine Both.step (fun k=>spec_PutTable.l1.eq_2 ..) (fun k=>impl_PutTable.l1.eq_2 ..) ?_;have e1:((i:Int)<(xs.length:Int))=False:=eq_false (by omega);simp only[e1,if_false];refine Both.bind (Both.eq (spec_putNum_ev c [] (by simp)) (impl_addNum_ev c [] (by simp))) (fun t ht=>?_);simp only[List.nil_append]at ht;have nl:=numB_length (clampN c);have tl:t.length≤5:=by rw[ht];omega
   have c1:(t.length+idx.length<140737488355328)=True:=eq_true (by omega);simp only[c1,if_true,Option.bind_some];have yin:BytesIn (t++idx):=by rw[ht];exact(numC_in c).append hi
   have yl:(t++idx).length=t.length+idx.length:=List.length_append;have ye:t++idx=numB (clampN c)++idx:=by rw[ht]
   generalize t++idx=y at yin yl ye
   refine Both.bind (filterb_both ks (by omega) hz) (fun f hf=>?_);have c2:(y.length+f.length<140737488355328)=True:=eq_true (by omega);simp only[c2,if_true];have zin:BytesIn (y++f):=yin.append hf.2;have zl:(y++f).length=y.length+f.length:=List.length_append;have ze:y++f=numB (clampN c)++(idx++f):=by rw[ye,List.append_assoc]
   generalize y++f=z at zin zl ze
   refine Both.bind (Both.eq (spec_frame_ev z zin (by omega)) (impl_frame_ev z zin (by omega))) (fun g hg=>?_)
   (try dsimp only at hg)
   have gl:=frameB_le z;rw[←hg]at gl;have gin:BytesIn g:=by rw[hg];exact frameB_in zin
   have c3:(out.length+g.length<140737488355328)=True:=eq_true (by omega);simp only[c3,if_true,Option.bind_some,spec_l1Four.f,impl_word.f];have wl:(out++g).length=out.length+g.length:=List.length_append;have win:BytesIn (out++g):=ho.append gin;have we:out++g=out++frameB (numB (clampN c)++(idx++f)):=by rw[hg,ze]
   generalize out++g=w at wl win we
   have c4:(w.length + [(out.length:Int) / 16777216 % 256,(out.length:Int) / 65536 % 256,(out.length:Int) / 256 % 256,(out.length:Int) % 256].length<140737488355328)=True:=eq_true (by simp only[List.length_cons,List.length_nil];omega);simp only[c4,if_true];refine Both.ret _ ⟨win.append (fourB_in (out.length:Int)),?_,Or.inr ⟨hn,out,idx++f,c,hc0,hc,hi.append hf.2,by rw[we];rfl⟩⟩;rw[List.length_append];simp only[List.length_cons,List.length_nil];omega
  |succ d ih=>
   intro i ks hi' hk hz;refine Both.step (fun k=>spec_PutTable.l1.eq_2 ..) (fun k=>impl_PutTable.l1.eq_2 ..) ?_;have e1:((i:Int)<(xs.length:Int))=True:=eq_true (by omega);have e2:(0≤(i:Int))=True:=eq_true (by omega);have e3:(ks.length<8796093022208)=True:=eq_true (by omega);have ew:wrap64 ((i:Int)+1)=((i+1:Nat):Int):=wrap_succ (n:=xs.length) (by omega) (by omega);simp only[e1,e2,e3,if_true,ew];refine ih (i+1) _ (by omega) (by simp[hk]) ?_;intro x hx
   rcases List.mem_append.1 hx with h|h
   ·exact hz x h
   ·rw[List.mem_singleton]at h;subst h;exact(hs.at i (by omega)).1
 exact key xs.length 0 [] (by omega) rfl (by simp)
theorem table_l0 (xs:List S87) (hn:xs.length≤200) (hs:SizesIn xs):∀(d i:Nat) (c:Int) (out idx:List Int),xs.length≤i+d→i≤204→BytesIn out→BytesIn idx→out.length≤i*100000000→idx.length≤i*100000000→0≤c→4*c≤(i:Int) →
 Both (TabOk xs.length) (fun k=>spec_PutTable.l0 k xs out [] idx c (i:Int)) (fun k=>impl_PutTable.l0 k xs out idx c (i:Int)):=by
 intro d
 induction d with
 |zero=>
  intro i c out idx hi hi2 ho hx lo lx hc0 hc4;refine Both.step (fun k=>spec_PutTable.l0.eq_2 ..) (fun k=>impl_PutTable.l0.eq_2 ..) ?_;have e1:((i:Int)<(xs.length:Int))=False:=eq_false (by omega);simp only[e1,if_false];exact table_end xs hn hs out idx ho hx (by omega) (by omega) c hc0 (by omega)
 |succ d ih=>
  intro i c out idx hi hi2 ho hx lo lx hc0 hc4;by_cases hlt:i<xs.length
  ·refine Both.step (fun k=>spec_PutTable.l0.eq_2 ..) (fun k=>impl_PutTable.l0.eq_2 ..) ?_;have e1:((i:Int)<(xs.length:Int))=True:=eq_true (by omega);have e2:(0≤(i:Int))=True:=eq_true (by omega);have w4:wrap64 ((i:Int)+4)=((i+4:Nat):Int):=(wrap_id (by omega) (by omega)).trans (by omega);obtain⟨e,he⟩:∃e:Nat,e=min (i+4) xs.length:=⟨_,rfl⟩;have me:mn ((i+4:Nat):Int) (xs.length:Int)=(e:Int):=by unfold mn;split<;>omega
   have me1:(i:Int)≤(e:Int):=by omega
   have yl:((xs.take e).drop i).length=e-i:=by rw[List.length_drop,List.length_take];omega
   have rl:rd_T87 ((xs.take e).drop i) ((e:Int)-(i:Int)-1)=rd_T87 xs ((e:Int)-1):=by
    have h:=rd_cut xs i e (e-i-1) (by omega);have q1:((e-i-1:Nat):Int)=(e:Int)-(i:Int)-1:=by omega
    have q2:((i+(e-i-1):Nat):Int)=(e:Int)-1:=by omega
    rw[q1,q2]at h;exact h
   have body:Both (TabOk xs.length)
    (fun k=>(spec_PutText.f k idx ((rd_T87 xs ((e:Int)-1)).f0)).bind fun t=>(spec_PutNum.f k t (out.length:Int)).bind fun u=>(spec_l5Block.f k ((xs.take e).drop i)).bind fun v=>if out.length+v.length<140737488355328 then spec_PutTable.l0 k xs (out++v) [] u (wrap64 (c+1)) ((i+4:Nat):Int) else none)
    (fun k=>(impl_addText.f k idx ((rd_T87 xs ((e:Int)-1)).f0)).bind fun t=>(impl_addNum.f k t (out.length:Int)).bind fun u=>(impl_putBlock.f k ((xs.take e).drop i)).bind fun v=>if out.length+v.length<140737488355328 then impl_PutTable.l0 k xs (out++v) u (wrap64 (c+1)) ((i+4:Nat):Int) else none):=by
    have hz:=hs.at (e-1) (by omega);have q:((e-1:Nat):Int)=(e:Int)-1:=by omega
    rw[q]at hz;generalize rd_T87 xs ((e:Int)-1)=x at hz
    refine Both.bind (Both.eq (spec_putText_ev x.f0 idx (by omega)) (impl_addText_ev x.f0 idx (by omega))) (fun t ht=>?_)
    (try dsimp only at ht)
    have tl:t.length≤idx.length+(x.f0.size+5):=by
     have:=textB_length x.f0;rw[ht,List.length_append];omega
    have tin:BytesIn t:=by rw[ht];exact hx.append (textB_in _)
    refine Both.bind (Both.eq (spec_putNum_ev (out.length:Int) t (by omega)) (impl_addNum_ev (out.length:Int) t (by omega))) (fun u hu=>?_)
    (try dsimp only at hu)
    have ul:u.length≤t.length+5:=by
     have:=numB_length (clampN (out.length:Int));rw[hu,List.length_append];omega
    have uin:BytesIn u:=by rw[hu];exact tin.append (numC_in _)
    refine Both.bind (block_both ((xs.take e).drop i) (by omega) (hs.cut i e)) (fun v hv=>?_);have vl:=hv.2;rw[yl]at vl;have c1:(out.length+v.length<140737488355328)=True:=eq_true (by omega);simp only[c1,if_true];have wc_:wrap64 (c+1)=c+1:=wrap_id (by omega) (by omega);simp only[wc_];exact ih (i+4) _ (out++v) u (by omega) (by omega) (ho.append hv.1) uin (by rw[List.length_append];omega) (by omega) (by omega) (by omega)
   have f1:(0≤(e:Int)-1)=True:=eq_true (by omega);have f2:((e:Int)-1<(xs.length:Int))=True:=eq_true (by omega);have f3:((i:Int)≤(e:Int))=True:=eq_true me1;have f4:((e:Int)≤(xs.length:Int))=True:=eq_true (by omega);have f5:(0≤(e:Int)-(i:Int)-1)=True:=eq_true (by omega);have f6:((e:Int)-(i:Int)-1<(((xs.take e).drop i).length:Int))=True:=eq_true (by omega);have wy:wrap64 ((((xs.take e).drop i).length:Int)-1)=(e:Int)-(i:Int)-1:=(wrap_id (by omega) (by omega)).trans (by omega)
   by_cases h4:((i+4:Nat):Int)>(xs.length:Int)
   ·have ee:(xs.length:Int)=(e:Int):=by omega
    have wl:wrap64 ((e:Int)-1)=(e:Int)-1:=wrap_id (by omega) (by omega);have h4':(((i+4:Nat):Int)>(e:Int))=True:=eq_true (by omega);have e1':((i:Int)<(e:Int))=True:=eq_true (by omega);rw[ee]at me f2 f4;have f7:((e:Int)≤(e:Int))=True:=eq_true (by omega);have f2':((e:Int)-1<(e:Int))=True:=eq_true (by omega);simp only[ee,e1',w4,h4',wl,me,e2,f1,f2',f3,f7,f5,f6,wy,rl,if_true,Option.bind_some,Int.toNat_natCast];exact body
   ·have ee:((i+4:Nat):Int)=(e:Int):=by omega
    have wl:wrap64 ((e:Int)-1)=(e:Int)-1:=wrap_id (by omega) (by omega);rw[ee]at me w4 h4 body;have h4':((e:Int)>(xs.length:Int))=False:=eq_false h4;simp only[e1,w4,h4',wl,me,e2,f1,f2,f3,f4,f5,f6,wy,rl,if_true,if_false,Option.bind_some,Int.toNat_natCast];exact body
  ·refine Both.step (fun k=>spec_PutTable.l0.eq_2 ..) (fun k=>impl_PutTable.l0.eq_2 ..) ?_;have e1:((i:Int)<(xs.length:Int))=False:=eq_false (by omega);simp only[e1,if_false];exact table_end xs hn hs out idx ho hx (by omega) (by omega) c hc0 (by omega)
theorem putTable_both (xs:List S87) (hn:xs.length≤1099511627776) (hs:SizesIn xs):Both (TabOk xs.length) (fun k=>spec_PutTable.f k xs) (fun k=>impl_PutTable.f k xs):=by
 obtain⟨b,_,h1,h2⟩:=rising_both xs hn
 have out:Both (TabOk xs.length) (fun k=>spec_PutTable.j0 k xs [] true) (fun k=>impl_PutTable.j0 k xs true):=by
  refine Both.step (fun k=>spec_PutTable.j0.eq_2 ..) (fun k=>impl_PutTable.j0.eq_2 ..) ?_;simp only[if_true];exact Both.ret _ ⟨BytesIn.nil,by simp,Or.inl rfl⟩
 simp only[spec_PutTable.f,impl_PutTable.f,Option.bind_some,in_eq,l1In_eq];by_cases hc:(decide (1≤(xs.length:Int))&&decide ((xs.length:Int)≤200))=true
 ·have hl:xs.length≤200:=by
   rw[Bool.and_eq_true,decide_eq_true_eq,decide_eq_true_eq]at hc;omega
  simp only[hc,if_true,Bool.not_true];refine Both.bind (Both.eq h1 h2) (fun b' _=>?_);cases b' with
  |true=>
   simp only[if_true,Bool.not_true];refine Both.step (fun k=>spec_PutTable.j0.eq_2 ..) (fun k=>impl_PutTable.j0.eq_2 ..) ?_;simp only[Bool.false_eq_true,if_false];exact table_l0 xs hl hs 200 0 0 [] [] (by omega) (by omega) BytesIn.nil BytesIn.nil (by simp) (by simp) (by omega) (by omega)
  |false=>
   simp only[Bool.false_eq_true,if_false,Bool.not_false];exact out
 ·have hc':=eq_false_of_ne_true hc;simp only[hc',Bool.false_eq_true,if_false,Bool.not_false];obtain⟨r,hr,o1,o2⟩:=out;refine⟨r,hr,?_,o2⟩;refine Ev.bind' (f:=fun n (t:Bool)=>if t=true then spec_PutTable.j0 n xs [] true else spec_PutTable.j0 n xs [] true) h1 ?_;simpa using o1
def getR (b:List Int) (at_:Int):Nat→Int→Int→Int × Int × Bool
 |0,_,_=>(0,0,false)
 |d+1,n,k=>if 0≤at_∧at_+k<(b.length:Int) then
  (if k=0∧rd b (at_+k)=128 then (0,0,false) else
   if rd b (at_+k)<128 then (if n*128+rd b (at_+k) % 128>1000000000 then (0,0,false) else (n*128+rd b (at_+k) % 128,at_+k+1,true))
   else getR b at_ d (n*128+rd b (at_+k) % 128) (k+1)) else (0,0,false)
def topR:Nat→Int
 |0=>0
 |k+1=>topR k*128+127
theorem topR_le (k:Nat) (h:k≤5):topR k≤34359738367:=by
 have:k=0∨k=1∨k=2∨k=3∨k=4∨k=5:=by omega
 rcases this with rfl|rfl|rfl|rfl|rfl|rfl<;>decide
theorem getR_range (b:List Int) (hb:BytesIn b) (at_:Int):∀(d:Nat) (n k:Int),0≤k→0≤n→(getR b at_ d n k).2.2=true →
 0≤(getR b at_ d n k).1∧(getR b at_ d n k).1≤1000000000∧at_+k+1≤(getR b at_ d n k).2.1∧0≤at_∧(getR b at_ d n k).2.1≤b.length:=by
 intro d
 induction d with
 |zero=>intro n k hk hn h;simp[getR]at h
 |succ d ih=>
  intro n k hk hn h;have hc:=hb (at_+k);unfold getR at h ⊢;by_cases hr:0≤at_∧at_+k<(b.length:Int)
  ·rw[if_pos hr]at h ⊢;by_cases h1:k=0∧rd b (at_+k)=128
   ·rw[if_pos h1]at h;simp at h
   ·rw[if_neg h1]at h ⊢;by_cases h2:rd b (at_+k)<128
    ·rw[if_pos h2]at h ⊢;by_cases h3:n*128+rd b (at_+k) % 128>1000000000
     ·rw[if_pos h3]at h;simp at h
     ·rw[if_neg h3];refine⟨?_,?_,?_,?_,?_⟩<;>first|omega|(dsimp only;omega)
    ·rw[if_neg h2]at h ⊢;obtain⟨a1,a2,a3,a4,a5⟩:=ih _ (k+1) (by omega) (by omega) h;exact⟨a1,a2,by omega,a4,a5⟩
  ·rw[if_neg hr]at h;simp at h
def textR (b:List Int) (at_:Int):ByteArray × Int × Bool:=
 if (getR b at_ 5 0 0).2.2=true then
  (if (getR b at_ 5 0 0).1>(b.length:Int)-(getR b at_ 5 0 0).2.1 then ((⟨#[]⟩:ByteArray),0,false)
   else (strOfNums ((b.take ((getR b at_ 5 0 0).2.1+(getR b at_ 5 0 0).1).toNat).drop ((getR b at_ 5 0 0).2.1).toNat),(getR b at_ 5 0 0).2.1+(getR b at_ 5 0 0).1,true))
 else ((⟨#[]⟩:ByteArray),0,false)
def wordR (b:List Int) (at_:Int):Int:=rd b at_*16777216+rd b (at_+1)*65536+rd b (at_+2)*256+rd b (at_+3)
def unframeR (b:List Int) (at_:Int):List Int × Int × Bool:=
 if 0≤at_∧at_≤(b.length:Int)-4 then
  (if (textR b (at_+4)).2.2=true∧sumN (bytesOf (textR b (at_+4)).1)=wordR b at_ then (bytesOf (textR b (at_+4)).1,(textR b (at_+4)).2.1,true) else ([],at_,false))
 else ([],at_,false)
theorem bytes_str (l:List Int) (h:∀x ∈ l,0≤x∧x≤255):bytesOf (strOfNums l)=l:=by
 unfold bytesOf;rw[strOfNums_data,List.map_map]
 conv=>rhs;rw[←List.map_id l]
 apply List.map_congr_left;intro x hx;have:=h x hx;simp only[Function.comp_apply,id_eq]
 have e:(UInt8.ofNat x.toNat).toNat=x.toNat:=by
  rw[UInt8.toNat_ofNat'];omega
 first|(rw[e];omega)|(simp only[UInt8.toNat_ofNat'];omega)
theorem rd_at (b pre rest:List Int) (x:Int):rd (b++(pre++x::rest)) ((b.length:Int)+(pre.length:Int))=x:=by
 have e:(b.length:Int)+(pre.length:Int)=((b.length+pre.length:Nat):Int):=by omega
 rw[e,rd_nat,List.getD_eq_getElem?_getD,List.getElem?_append_right (by omega),Nat.add_sub_cancel_left,List.getElem?_append_right (Nat.le_refl _),Nat.sub_self];rfl
def valN (n:Int) (ds:List Int):Int:=ds.foldl (fun a d=>a*128+d % 128) n
theorem getR_num (b rest:List Int) (e:Int) (he0:0≤e) (he:e<128):∀(ds pre:List Int) (d:Nat) (n:Int),ds.length<d→(∀x ∈ ds,128≤x)→(pre=[]→∀x t,ds=x::t→x≠128)→(pre≠[]∨ds≠[]∨True)→valN n ds*128+e≤1000000000 →
 getR (b++(pre++(ds++e::rest))) (b.length:Int) d n (pre.length:Int)=(valN n ds*128+e,(b.length:Int)+(pre.length:Int)+(ds.length:Int)+1,true):=by
 intro ds
 induction ds with
 |nil=>
  intro pre d n hd _ _ _ hv;obtain⟨d',rfl⟩:∃d',d=d'+1:=⟨d-1,by have:([]:List Int).length=0:=rfl;omega⟩;unfold getR;have hl:(b++(pre++([]++e::rest))).length=b.length+(pre.length+(rest.length+1)):=by simp
  simp only[List.nil_append]at hl ⊢;simp only[valN,List.foldl_nil]at hv ⊢;rw[if_pos ⟨by omega,by omega⟩,rd_at,if_neg (by omega),if_pos he,if_neg (by omega)];have:e % 128=e:=by omega
  rw[this];simp
 |cons x t ih=>
  intro pre d n hd hs hf _ hv;obtain⟨d',rfl⟩:∃d',d=d'+1:=⟨d-1,by rw[List.length_cons]at hd;omega⟩;have hx:=hs x (by simp);unfold getR;have hl:(b++(pre++(x::t++e::rest))).length=b.length+(pre.length+(t.length+1+(rest.length+1))):=by simp;omega
  have hr:rd (b++(pre++(x::t++e::rest))) ((b.length:Int)+(pre.length:Int))=x:=rd_at b pre (t++e::rest) x
  have h128:¬((pre.length:Int)=0∧x=128):=by
   rintro⟨h0,h1⟩;have hp:pre=[]:=List.length_eq_zero_iff.1 (by omega);exact hf hp x t rfl h1
  rw[if_pos ⟨by omega,by omega⟩,hr,if_neg h128,if_neg (by omega)];have h:=ih (pre++[x]) d' (n*128+x % 128) (by rw[List.length_cons]at hd;omega) (fun y hy=>hs y (by simp[hy])) (fun hp=>by simp at hp) (.inr (.inr trivial)) hv;have e1:b++((pre++[x])++(t++e::rest))=b++(pre++(x::t++e::rest)):=by simp
  have e2:((pre++[x]).length:Int)=(pre.length:Int)+1:=by simp
  rw[e1,e2]at h;rw[h];have e3:(b.length:Int)+((pre.length:Int)+1)+(t.length:Int)+1=(b.length:Int)+(pre.length:Int)+((x::t).length:Int)+1:=by rw[List.length_cons];omega
  rw[e3];rfl
theorem getR_cut (b:List Int):∀(ds pre:List Int) (d:Nat) (n:Int),(∀x ∈ ds,128≤x)→(getR (b++(pre++ds)) (b.length:Int) d n (pre.length:Int)).2.2=false:=by
 intro ds
 induction ds with
 |nil=>
  intro pre d n _;cases d with
  |zero=>rfl
  |succ d=>
   unfold getR;rw[if_neg (by simp)]
 |cons x t ih=>
  intro pre d n hs;cases d with
  |zero=>rfl
  |succ d=>
   unfold getR;have hl:(b++(pre++x::t)).length=b.length+(pre.length+(t.length+1)):=by simp
   rw[if_pos ⟨by omega,by omega⟩,rd_at];have hx:=hs x (by simp);by_cases h:(pre.length:Int)=0∧x=128
   ·rw[if_pos h]
   ·rw[if_neg h,if_neg (by omega)];have h:=ih (pre++[x]) d (n*128+x % 128) (fun y hy=>hs y (by simp[hy]));have e1:b++((pre++[x])++t)=b++(pre++x::t):=by simp
    have e2:((pre++[x]).length:Int)=(pre.length:Int)+1:=by simp
    rw[e1,e2]at h;exact h
theorem numB_split (m:Int) (h0:0≤m) (h1:m≤1000000000):∃ds e,numB m=ds++[e]∧ds.length<5∧(∀x ∈ ds,128≤x)∧(∀x t,ds=x::t→x≠128)∧0≤e∧e<128∧valN 0 ds*128+e=m:=by
 unfold numB;by_cases c1:m<128
 ·rw[if_pos c1];exact⟨[],m % 128,rfl,by simp,by simp,by simp,by omega,by omega,by simp only[valN,List.foldl_nil];omega⟩
 rw[if_neg c1];by_cases c2:m<16384
 ·rw[if_pos c2];refine⟨[m / 128 % 128+128],m % 128,rfl,by simp,?_,?_,by omega,by omega,by simp only[valN,List.foldl_nil,List.foldl_cons];omega⟩
  ·intro x hx;simp only[List.mem_cons,List.not_mem_nil,or_false]at hx;omega
  ·intro x t hx;injection hx with hx _;omega
 rw[if_neg c2];by_cases c3:m<2097152
 ·rw[if_pos c3];refine⟨[m / 16384 % 128+128,m / 128 % 128+128],m % 128,rfl,by simp,?_,?_,by omega,by omega,by simp only[valN,List.foldl_nil,List.foldl_cons];omega⟩
  ·intro x hx;simp only[List.mem_cons,List.not_mem_nil,or_false]at hx;omega
  ·intro x t hx;injection hx with hx _;omega
 rw[if_neg c3];by_cases c4:m<268435456
 ·rw[if_pos c4];refine⟨[m / 2097152 % 128+128,m / 16384 % 128+128,m / 128 % 128+128],m % 128,rfl,by simp,?_,?_,by omega,by omega,by simp only[valN,List.foldl_nil,List.foldl_cons];omega⟩
  ·intro x hx;simp only[List.mem_cons,List.not_mem_nil,or_false]at hx;omega
  ·intro x t hx;injection hx with hx _;omega
 rw[if_neg c4];refine⟨[m / 268435456 % 128+128,m / 2097152 % 128+128,m / 16384 % 128+128,m / 128 % 128+128],m % 128,rfl,by simp,?_,?_,by omega,by omega,by simp only[valN,List.foldl_nil,List.foldl_cons];omega⟩
 ·intro x hx;simp only[List.mem_cons,List.not_mem_nil,or_false]at hx;omega
 ·intro x t hx;injection hx with hx _;omega
theorem getR_numB (b rest:List Int) (m:Int) (h0:0≤m) (h1:m≤1000000000):getR (b++(numB m++rest)) (b.length:Int) 5 0 0=(m,(b.length:Int)+((numB m).length:Int),true):=by
 obtain⟨ds,e,he,hl,hs,hf,e0,e1,hv⟩:=numB_split m h0 h1;have h:=getR_num b rest e e0 e1 ds [] 5 0 hl hs (fun _=>hf) (.inr (.inr trivial)) (by omega);have q:b++([]++(ds++e::rest))=b++(numB m++rest):=by rw[he];simp
 rw[q]at h;rw[he]at h ⊢;have l:((ds++[e]).length:Int)=(ds.length:Int)+1:=by simp
 rw[l,←hv];simpa[Int.add_assoc] using h
theorem cut_numB (b:List Int) (m:Int) (h0:0≤m) (h1:m≤1000000000):(getR ((b++numB m).take ((b++numB m).length-1)) (b.length:Int) 5 0 0).2.2=false:=by
 obtain⟨ds,e,he,hl,hs,_⟩:=numB_split m h0 h1
 have q:(b++numB m).take ((b++numB m).length-1)=b++([]++ds):=by
  rw[he,←List.append_assoc];have l:((b++ds)++[e]).length-1=(b++ds).length:=by simp
  rw[l,List.take_left']
  ·simp
  ·rfl
 rw[q];exact getR_cut b ds [] 5 0 hs
theorem str_bytes (s:ByteArray):strOfNums (bytesOf s)=s:=by
 have h:(strOfNums (bytesOf s)).data=s.data:=by
  apply Array.toList_inj.1;rw[strOfNums_data,bytesOf,List.map_map]
  conv=>rhs;rw[←List.map_id s.data.toList]
  apply List.map_congr_left;intro x _;simp
 cases s
 simpa[strOfNums] using h
theorem textR_textB (b:List Int) (s:ByteArray) (hs:s.size≤1000000000):textR (b++textB s) (b.length:Int)=(s,((b++textB s).length:Int),true):=by
 have hc:clampN (s.size:Int)=(s.size:Int):=by unfold clampN;rw[if_neg (by omega),if_neg (by omega)]
 have g:=getR_numB b (bytesOf s) (s.size:Int) (by omega) (by omega);unfold textR textB;rw[hc,g];have l:(b++(numB (s.size:Int)++bytesOf s)).length=b.length+((numB (s.size:Int)).length+s.size):=by rw[List.length_append,List.length_append,bytesOf_length]
 dsimp only;rw[if_pos rfl,if_neg (by omega)];have t1:((b.length:Int)+((numB (s.size:Int)).length:Int)+(s.size:Int)).toNat=(b++(numB (s.size:Int)++bytesOf s)).length:=by omega
 have t2:((b.length:Int)+((numB (s.size:Int)).length:Int)).toNat=(b++numB (s.size:Int)).length:=by rw[List.length_append];omega
 rw[t1,t2,List.take_length,←List.append_assoc,List.drop_left',str_bytes]
 ·have:(b.length:Int)+((numB (s.size:Int)).length:Int)+(s.size:Int)=(((b++numB (s.size:Int))++bytesOf s).length:Int):=by rw[List.append_assoc];omega
  rw[this]
 ·rfl
theorem rd_app2 (p l:List Int) (i:Int) (hi:i=(p.length:Int)) (x:Int) (l':List Int) (h:l=x::l'):rd (p++l) i=x:=by
 subst hi h;rw[rd_nat,List.getD_eq_getElem?_getD,List.getElem?_append_right (Nat.le_refl _),Nat.sub_self];rfl
theorem word_four2 (p rest:List Int) (a b c d:Int) (i:Int) (hi:i=(p.length:Int)):wordR (p++a::b::c::d::rest) i=a*16777216+b*65536+c*256+d:=by
 unfold wordR;rw[rd_app2 p _ i hi a _ rfl];have e1:p++a::b::c::d::rest=(p++[a])++b::c::d::rest:=by simp
 have e2:p++a::b::c::d::rest=(p++[a,b])++c::d::rest:=by simp
 have e3:p++a::b::c::d::rest=(p++[a,b,c])++d::rest:=by simp
 rw[show rd (p++a::b::c::d::rest) (i+1)=b from by rw[e1];exact rd_app2 _ _ _ (by simp;omega) b _ rfl,show rd (p++a::b::c::d::rest) (i+2)=c from by rw[e2];exact rd_app2 _ _ _ (by simp;omega) c _ rfl,show rd (p++a::b::c::d::rest) (i+3)=d from by rw[e3];exact rd_app2 _ _ _ (by simp;omega) d _ rfl]
theorem four_back {s:Int} (h0:0≤s) (h1:s≤4294967295):s / 16777216 % 256*16777216+s / 65536 % 256*65536+s / 256 % 256*256+s % 256=s:=by omega
theorem unframe_at (p l rest:List Int) (hl:l.length≤1000000000) (hb:∀x ∈ l,0≤x∧x≤255):(unframeR (p++(frameB l++rest)) (p.length:Int)).1=l∧(unframeR (p++(frameB l++rest)) (p.length:Int)).2.2=true:=by
 have hs:=sumN_range (l:=l) (fun x hx=>by have:=hb x hx;omega);have hc:clampN (l.length:Int)=(l.length:Int):=by unfold clampN;rw[if_neg (by omega),if_neg (by omega)]
 have e:p++(frameB l++rest)=(p++fourB (sumN l))++(numB (l.length:Int)++(l++rest)):=by
  unfold frameB;rw[hc];simp only[List.append_assoc]
 have pl:((p++fourB (sumN l)).length:Int)=(p.length:Int)+4:=by simp[fourB]
 have g:=getR_numB (p++fourB (sumN l)) (l++rest) (l.length:Int) (by omega) (by omega);have nl:=numB_length (l.length:Int)
 have ll:(p++(frameB l++rest)).length=p.length+4+(numB (l.length:Int)).length+l.length+rest.length:=by
  rw[e];simp[fourB];omega
 have t:textR (p++(frameB l++rest)) ((p.length:Int)+4)=(strOfNums l,(p.length:Int)+4+((numB (l.length:Int)).length:Int)+(l.length:Int),true):=by
  rw[←pl,e];unfold textR;rw[g,if_pos rfl];dsimp only;have bl:((p++fourB (sumN l))++(numB (l.length:Int)++(l++rest))).length=p.length+4+(numB (l.length:Int)).length+l.length+rest.length:=by rw[←e];exact ll
  rw[if_neg (by omega)];have e2:(p++fourB (sumN l))++(numB (l.length:Int)++(l++rest))=((p++fourB (sumN l))++numB (l.length:Int))++(l++rest):=by simp only[List.append_assoc]
  have la:((p++fourB (sumN l))++numB (l.length:Int)).length=(p++fourB (sumN l)).length+(numB (l.length:Int)).length:=List.length_append
  have n1:(((p++fourB (sumN l)).length:Int)+((numB (l.length:Int)).length:Int)).toNat=((p++fourB (sumN l))++numB (l.length:Int)).length:=by
   rw[la];omega
  have n2:(((p++fourB (sumN l)).length:Int)+((numB (l.length:Int)).length:Int)+(l.length:Int)).toNat=((p++fourB (sumN l))++numB (l.length:Int)).length+l.length:=by
   rw[la];omega
  rw[n1,n2,e2,List.take_length_add_append,List.take_left' rfl,List.drop_left'];rfl
 have w:wordR (p++(frameB l++rest)) (p.length:Int)=sumN l:=by
  have e3:p++(frameB l++rest)=p++(sumN l / 16777216 % 256)::(sumN l / 65536 % 256)::(sumN l / 256 % 256)::(sumN l % 256)::(numB (clampN (l.length:Int))++(l++rest)):=by
   unfold frameB fourB;simp only[List.append_assoc,List.cons_append,List.nil_append]
  rw[e3,word_four2 p _ _ _ _ _ _ rfl];exact four_back hs.1 hs.2
 unfold unframeR;rw[if_pos ⟨by omega,by omega⟩,t,w];dsimp only;rw[bytes_str l hb,if_pos ⟨rfl,rfl⟩];exact⟨rfl,rfl⟩
theorem impl_getNum_l0 (b:List Int) (hb:BytesIn b) (hn:b.length≤281474976710656) (at_:Int) (ha:at_≤9223372036854775807):∀(d:Nat) (n:Int) (k:Nat),k+d=5→0≤n→n≤topR k →
 Ev (fun q=>impl_GetNum.l0 q b at_ n (k:Int)) (getR b at_ d n (k:Int)):=by
 intro d
 induction d with
 |zero=>
  intro n k hk h0 h1;refine Ev.step (f:=fun q=>impl_GetNum.j1 q b at_ n (k:Int) false) (fun q=>?_) (Ev.step (f:=fun _=>some (0,0,false)) (fun q=>?_) (Ev.now _))
  ·simp only[impl_GetNum.l0];rw[if_neg (by omega)]
  ·simp[impl_GetNum.j1]
 |succ d ih=>
  intro n k hk h0 h1;have ht:=topR_le k (by omega);have hc:=hb (at_+(k:Int));have hl:wrap64 ((b.length:Int)-(k:Int))=(b.length:Int)-(k:Int):=wrap_id (by omega) (by omega);unfold getR;by_cases hr:0≤at_∧at_+(k:Int)<(b.length:Int)
  ·rw[if_pos hr];have hw:wrap64 (at_+(k:Int))=at_+(k:Int):=wrap_id (by omega) (by omega);have hwc:wrap64 (rd b (at_+(k:Int)))=rd b (at_+(k:Int)):=wrap_id (by omega) (by omega);have hwn:wrap64 (n*128)=n*128:=wrap_id (by omega) (by omega);have hmod:Int.tmod (rd b (at_+(k:Int))) 128=rd b (at_+(k:Int)) % 128:=Int.tmod_eq_emod_of_nonneg (by omega);have hws:wrap64 (n*128+rd b (at_+(k:Int)) % 128)=n*128+rd b (at_+(k:Int)) % 128:=wrap_id (by omega) (by omega);refine Ev.step (f:=fun q=>impl_GetNum.j1 q b at_ n (k:Int) true) (fun q=>?_) ?_
   ·simp only[impl_GetNum.l0];rw[if_pos (by omega),if_pos (by omega),hl,decide_eq_true (by omega)]
   ·by_cases h128:(k:Int)=0∧rd b (at_+(k:Int))=128
    ·rw[if_pos h128];refine Ev.step (f:=fun q=>impl_GetNum.j2 q b at_ n (k:Int) (rd b (at_+(k:Int))) true) (fun q=>?_) (Ev.step (f:=fun _=>some (0,0,false)) (fun q=>?_) (Ev.now _))
     ·simp only[impl_GetNum.j1,hw,hwc];rw[if_pos trivial,if_pos (by omega),if_pos (by omega),if_pos h128.1];simp[h128.2]
     ·simp[impl_GetNum.j2]
    ·rw[if_neg h128];refine Ev.step (f:=fun q=>impl_GetNum.j2 q b at_ n (k:Int) (rd b (at_+(k:Int))) false) (fun q=>?_) ?_
     ·simp only[impl_GetNum.j1,hw,hwc];rw[if_pos trivial,if_pos (by omega),if_pos (by omega)];by_cases hk0:(k:Int)=0
      ·rw[if_pos hk0];have:rd b (at_+(k:Int))≠128:=fun e=>h128 ⟨hk0,e⟩
       rw[beq_eq_false_iff_ne.2 this]
      ·rw[if_neg hk0]
     ·by_cases hlt:rd b (at_+(k:Int))<128
      ·rw[if_pos hlt];refine Ev.step (f:=fun _=>some _) (fun q=>?_) (Ev.now _);simp only[impl_GetNum.j2,hwn,hmod,hws,hw];rw[if_neg (by simp),if_neg (by omega)];by_cases hg:n*128+rd b (at_+(k:Int)) % 128>1000000000
       ·rw[if_pos hg,if_pos hg]
       ·rw[if_neg hg,if_neg hg,wrap_id (i:=at_+(k:Int)+1) (by omega) (by omega)]
      ·rw[if_neg hlt];have h2:topR (k+1)=topR k*128+127:=rfl;refine Ev.step (f:=fun q=>impl_GetNum.l0 q b at_ (n*128+rd b (at_+(k:Int)) % 128) ((k+1:Nat):Int)) (fun q=>?_) ?_
       ·simp only[impl_GetNum.j2,hwn,hmod,hws];rw[if_neg (by simp),if_pos (by omega),wrap_id (i:=(k:Int)+1) (by omega) (by omega)];rfl
       ·exact ih _ (k+1) (by omega) (by omega) (by omega)
  ·rw[if_neg hr];refine Ev.step (f:=fun q=>impl_GetNum.j1 q b at_ n (k:Int) false) (fun q=>?_) (Ev.step (f:=fun _=>some (0,0,false)) (fun q=>?_) (Ev.now _))
   ·simp only[impl_GetNum.l0];rw[if_pos (by omega)];by_cases h3:at_≥0
    ·rw[if_pos h3,hl,decide_eq_false (by omega)]
    ·rw[if_neg h3]
   ·simp[impl_GetNum.j1]
theorem impl_getNum_ev (b:List Int) (hb:BytesIn b) (hn:b.length≤281474976710656) (at_:Int) (ha:at_≤9223372036854775807):Ev (fun q=>impl_GetNum.f q b at_) (getR b at_ 5 0 0):=
 impl_getNum_l0 b hb hn at_ ha 5 0 0 rfl (Int.le_refl 0) (Int.le_refl 0)
theorem impl_getText_ev (b:List Int) (hb:BytesIn b) (hn:b.length≤281474976710656) (at_:Int) (ha:at_≤9223372036854775807):Ev (fun q=>impl_GetText.f q b at_) (textR b at_):=by
 obtain⟨K,h⟩:=impl_getNum_ev b hb (by omega) at_ ha;dsimp only at h;refine⟨K,fun q hq=>?_⟩;simp only[impl_GetText.f];rw[h q hq,Option.bind_some];unfold textR;have hr:=getR_range b hb at_ 5 0 0 (Int.le_refl 0) (Int.le_refl 0);generalize getR b at_ 5 0 0=g at hr ⊢
 by_cases h1:g.2.2=true
 ·obtain⟨a1,a2,a3,a4,a5⟩:=hr h1;rw[if_pos h1,if_pos h1,wrap_id (i:=(b.length:Int)-g.2.1) (by omega) (by omega)];by_cases h2:g.1>(b.length:Int)-g.2.1
  ·rw[if_pos h2,if_pos h2]
  ·rw[if_neg h2,if_neg h2,wrap_id (i:=g.2.1+g.1) (by omega) (by omega),if_pos (by omega),if_pos (by omega),if_pos (by omega)]
 ·rw[if_neg h1,if_neg h1]
theorem conv_some (s:ByteArray) (h:s.size≤4611686018427387904):mp_convB.f s=some (bytesOf s):=by
 unfold mp_convB.f;rw[if_pos h]
theorem strOf_size (l:List Int):(strOfNums l).size=l.length:=by simp[strOfNums_size]
theorem textR_size (b:List Int) (i:Int):(textR b i).1.size≤b.length:=by
 unfold textR;split
 ·split
  ·exact Nat.zero_le _
  ·dsimp only;rw[strOf_size,List.length_drop,List.length_take];omega
 ·exact Nat.zero_le _
theorem or_i64 (m:Nat) {x y:Int} (hm:m≤62) (h0:0≤x) (h1:x<9223372036854775808) (hx:x % 2 ^ m=0) (hy0:0≤y) (hy:y<2 ^ m) (hs:x+y<9223372036854775808):Go.bits .or .i64 x y=x+y:=
 bits_join .i64 63 (by decide) wraps_i64 m x y h0 hx (by omega) hy0 hy (by omega)
theorem wordAt_ev (b:List Int) (hb:BytesIn b) (i:Nat) (hi:i+4≤b.length) (hn:b.length≤281474976710656):impl_wordAt.f b (i:Int)=some (wordR b (i:Int)):=by
 have c0:=hb (i:Int);have c1:=hb ((i:Int)+1);have c2:=hb ((i:Int)+2);have c3:=hb ((i:Int)+3);have w1:wrap64 ((i:Int)+1)=(i:Int)+1:=wrap_id (by omega) (by omega);have w2:wrap64 ((i:Int)+2)=(i:Int)+2:=wrap_id (by omega) (by omega);have w3:wrap64 ((i:Int)+3)=(i:Int)+3:=wrap_id (by omega) (by omega);unfold impl_wordAt.f;rw[w1,w2,w3,if_pos (by omega),if_pos (by omega),if_pos (by omega),if_pos (by omega),if_pos (by omega),if_pos (by omega),if_pos (by omega),if_pos (by omega)];unfold wordR;generalize rd b (i:Int)=a0 at c0
 generalize rd b ((i:Int)+1)=a1 at c1
 generalize rd b ((i:Int)+2)=a2 at c2
 generalize rd b ((i:Int)+3)=a3 at c3
 rw[wrap_id (i:=a0) (by omega) (by omega),wrap_id (i:=a1) (by omega) (by omega),wrap_id (i:=a2) (by omega) (by omega),wrap_id (i:=a3) (by omega) (by omega),wrap_id (i:=a0*16777216) (by omega) (by omega),wrap_id (i:=a1*65536) (by omega) (by omega),wrap_id (i:=a2*256) (by omega) (by omega)];rw[or_i64 24 (x:=a0*16777216) (y:=a1*65536) (by omega) (by omega) (by omega) (by omega) (by omega) (by omega) (by omega),or_i64 16 (x:=a0*16777216+a1*65536) (y:=a2*256) (by omega) (by omega) (by omega) (by omega) (by omega) (by omega) (by omega),or_i64 8 (x:=a0*16777216+a1*65536+a2*256) (y:=a3) (by omega) (by omega) (by omega) (by omega) (by omega) (by omega) (by omega)]
theorem implUnframe_ev (b:List Int) (hb:BytesIn b) (hn:b.length≤281474976710000) (i:Nat) (hi:i≤281474976710656):Ev (fun k=>impl_Unframe.f k b (i:Int)) (unframeR b (i:Int)):=by
 have hw:wrap64 ((b.length:Int)-4)=(b.length:Int)-4:=wrap_id (by omega) (by omega);have hw4:wrap64 ((i:Int)+4)=(i:Int)+4:=wrap_id (by omega) (by omega);simp only[impl_Unframe.f,in_eq,hw,hw4,Option.bind_some];unfold unframeR;by_cases hc:(0:Int)≤(i:Int)∧(i:Int)≤(b.length:Int)-4
 ·rw[if_pos hc];have hd:(decide ((0:Int)≤(i:Int))&&decide ((i:Int)≤(b.length:Int)-4))=true:=by rw[decide_eq_true hc.1,decide_eq_true hc.2];rfl
  have jt:Ev (fun k=>impl_Unframe.j0 k (i:Int) (textR b ((i:Int)+4)).1 (textR b ((i:Int)+4)).2.1 true) ([],(i:Int),false):=Ev.ends (fun k=>by simp only[impl_Unframe.j0];rw[if_pos trivial]);refine Ev.congr (f:=fun k=>(impl_GetText.f k b ((i:Int)+4)).bind fun bt131=>(if bt131.2.2=true then ((mp_convB.f bt131.1).bind fun t134=>((impl_Sum.f k t134).bind fun t137=>((impl_wordAt.f b (i:Int)).bind fun t138=>(impl_Unframe.j0 k (i:Int) bt131.1 bt131.2.1 (t137 != t138))))) else (impl_Unframe.j0 k (i:Int) bt131.1 bt131.2.1 true))) (fun k=>by rw[if_pos hd]) ?_;refine Ev.bind' (impl_getText_ev b hb (by omega) ((i:Int)+4) (by omega)) ?_;have hsz:=textR_size b ((i:Int)+4);generalize textR b ((i:Int)+4)=t at jt hsz ⊢
  have hts:t.1.size≤4611686018427387904:=by omega
  have hi4:i+4≤b.length:=by omega
  by_cases ht:t.2.2=true
  ·refine Ev.congr (f:=fun k=>(impl_Sum.f k (bytesOf t.1)).bind fun t137=>(impl_Unframe.j0 k (i:Int) t.1 t.2.1 (t137 != wordR b (i:Int)))) (fun k=>by rw[if_pos ht,conv_some t.1 hts,Option.bind_some,wordAt_ev b hb i hi4 (by omega)];rfl) ?_;refine Ev.bind' (impl_sum_ev (bytesOf t.1) (bytesOf_in t.1) (by rw[bytesOf_length];omega)) ?_;by_cases hs:sumN (bytesOf t.1)=wordR b (i:Int)
   ·rw[if_pos ⟨ht,hs⟩,hs,bne_self_eq_false];refine Ev.ends (fun k=>?_);simp only[impl_Unframe.j0];rw[if_neg (by decide),conv_some t.1 hts,Option.bind_some]
   ·rw[if_neg (fun h=>hs h.2),bne_iff_ne.2 hs];exact jt
  ·rw[if_neg (fun h=>ht h.1)];exact Ev.congr (fun k=>by rw[if_neg ht]) jt
 ·rw[if_neg hc]
  have hd:(decide ((0:Int)≤(i:Int))&&decide ((i:Int)≤(b.length:Int)-4))=false:=by
   rw[Bool.and_eq_false_iff];by_cases h:(0:Int)≤(i:Int)
   ·exact .inr (decide_eq_false (fun h2=>hc ⟨h,h2⟩))
   ·exact .inl (decide_eq_false h)
  exact Ev.all (fun k=>by rw[if_neg (by rw[hd];decide)])
theorem spec_getNum_l0 (b:List Int) (hb:BytesIn b) (hn:b.length≤281474976710656) (at_:Int) (ha:at_≤9223372036854775807):∀(d:Nat) (n:Int) (k:Nat),k+d=5→0≤n→n≤topR k →
 Ev (fun q=>spec_GetNum.l0 q b at_ n (k:Int)) (getR b at_ d n (k:Int)):=by
 intro d
 induction d with
 |zero=>
  intro n k hk h0 h1;refine Ev.step (f:=fun q=>spec_GetNum.j1 q b at_ n (k:Int) false) (fun q=>?_) (Ev.step (f:=fun _=>some (0,0,false)) (fun q=>?_) (Ev.now _))
  ·simp only[spec_GetNum.l0];rw[if_neg (by omega)]
  ·simp[spec_GetNum.j1]
 |succ d ih=>
  intro n k hk h0 h1;have ht:=topR_le k (by omega);have hc:=hb (at_+(k:Int));unfold getR;by_cases hr:0≤at_∧at_+(k:Int)<(b.length:Int)
  ·rw[if_pos hr];have hw:wrap64 (at_+(k:Int))=at_+(k:Int):=wrap_id (by omega) (by omega);have hwc:wrap64 (rd b (at_+(k:Int)))=rd b (at_+(k:Int)):=wrap_id (by omega) (by omega);have hwn:wrap64 (n*128)=n*128:=wrap_id (by omega) (by omega);have hand:Go.bits .and .i64 (rd b (at_+(k:Int))) 127=rd b (at_+(k:Int)) % 128:=and127 (by omega) (by omega);have hor:Go.bits .or .i64 (n*128) (rd b (at_+(k:Int)) % 128)=n*128+rd b (at_+(k:Int)) % 128:=or7 (by omega) (by omega) (by omega) (by omega) (by omega);refine Ev.step (f:=fun q=>spec_GetNum.j1 q b at_ n (k:Int) true) (fun q=>?_) ?_
   ·simp only[spec_GetNum.l0];rw[if_pos (by omega),if_pos (by omega),if_pos (by omega),hw,decide_eq_true hr.2]
   ·by_cases h128:(k:Int)=0∧rd b (at_+(k:Int))=128
    ·rw[if_pos h128];refine Ev.step (f:=fun q=>spec_GetNum.j2 q b at_ n (k:Int) (rd b (at_+(k:Int))) true) (fun q=>?_) (Ev.step (f:=fun _=>some (0,0,false)) (fun q=>?_) (Ev.now _))
     ·simp only[spec_GetNum.j1,hw,hwc];rw[if_pos trivial,if_pos (by omega),if_pos (by omega),if_pos h128.1];simp[h128.2]
     ·simp[spec_GetNum.j2]
    ·rw[if_neg h128];refine Ev.step (f:=fun q=>spec_GetNum.j2 q b at_ n (k:Int) (rd b (at_+(k:Int))) false) (fun q=>?_) ?_
     ·simp only[spec_GetNum.j1,hw,hwc];rw[if_pos trivial,if_pos (by omega),if_pos (by omega)];by_cases hk0:(k:Int)=0
      ·rw[if_pos hk0];have:rd b (at_+(k:Int))≠128:=fun e=>h128 ⟨hk0,e⟩
       rw[beq_eq_false_iff_ne.2 this]
      ·rw[if_neg hk0]
     ·by_cases hlt:rd b (at_+(k:Int))<128
      ·rw[if_pos hlt];refine Ev.step (f:=fun _=>some _) (fun q=>?_) (Ev.now _);simp only[spec_GetNum.j2,hwn,hand,hor,hw];rw[if_neg (by simp),if_pos hlt];by_cases hg:n*128+rd b (at_+(k:Int)) % 128>1000000000
       ·rw[if_pos hg,if_pos hg]
       ·rw[if_neg hg,if_neg hg,wrap_id (i:=at_+(k:Int)+1) (by omega) (by omega)]
      ·rw[if_neg hlt];have h2:topR (k+1)=topR k*128+127:=rfl;refine Ev.step (f:=fun q=>spec_GetNum.l0 q b at_ (n*128+rd b (at_+(k:Int)) % 128) ((k+1:Nat):Int)) (fun q=>?_) ?_
       ·simp only[spec_GetNum.j2,hwn,hand,hor];rw[if_neg (by simp),if_neg hlt,wrap_id (i:=(k:Int)+1) (by omega) (by omega)];rfl
       ·exact ih _ (k+1) (by omega) (by omega) (by omega)
  ·rw[if_neg hr];refine Ev.step (f:=fun q=>spec_GetNum.j1 q b at_ n (k:Int) false) (fun q=>?_) (Ev.step (f:=fun _=>some (0,0,false)) (fun q=>?_) (Ev.now _))
   ·simp only[spec_GetNum.l0];rw[if_pos (by omega)];by_cases h3:at_≥0
    ·rw[if_pos h3];by_cases h4:at_<(b.length:Int)
     ·rw[if_pos h4,wrap_id (i:=at_+(k:Int)) (by omega) (by omega),decide_eq_false (by omega)]
     ·rw[if_neg h4]
    ·rw[if_neg h3]
   ·simp[spec_GetNum.j1]
theorem spec_getNum_ev (b:List Int) (hb:BytesIn b) (hn:b.length≤281474976710656) (at_:Int) (ha:at_≤9223372036854775807):Ev (fun q=>spec_GetNum.f q b at_) (getR b at_ 5 0 0):=
 spec_getNum_l0 b hb hn at_ ha 5 0 0 rfl (Int.le_refl 0) (Int.le_refl 0)
theorem specFour_ev (b:List Int) (hb:BytesIn b) (hn:b.length≤281474976710656) (i:Int) (hi:i≤9223372036854775807):Ev (fun k=>spec_l1FourAt.f k b i) (if 0≤i∧i≤(b.length:Int)-4 then (wordR b i,true) else (0,false)):=by
 have hw:wrap64 ((b.length:Int)-4)=(b.length:Int)-4:=wrap_id (by omega) (by omega);simp only[spec_l1FourAt.f,hw];by_cases h0:i<0
 ·rw[if_neg (by omega)];refine Ev.ends (fun k=>?_);rw[if_pos h0];simp only[spec_l1FourAt.j0];rfl
 by_cases h1:i>(b.length:Int)-4
 ·rw[if_neg (by omega)];refine Ev.ends (fun k=>?_);rw[if_neg h0,decide_eq_true h1];simp only[spec_l1FourAt.j0];rfl
 ·rw[if_pos (by omega)];obtain⟨j,rfl⟩:∃j:Nat,i=(j:Int):=⟨i.toNat,by omega⟩;have h:=wordAt_ev b hb j (by omega) hn;unfold impl_wordAt.f at h;have w1:wrap64 ((j:Int)+1)=(j:Int)+1:=wrap_id (by omega) (by omega);have w2:wrap64 ((j:Int)+2)=(j:Int)+2:=wrap_id (by omega) (by omega);have w3:wrap64 ((j:Int)+3)=(j:Int)+3:=wrap_id (by omega) (by omega);rw[w1,w2,w3,if_pos (by omega),if_pos (by omega),if_pos (by omega),if_pos (by omega),if_pos (by omega),if_pos (by omega),if_pos (by omega),if_pos (by omega)]at h;refine Ev.ends (fun k=>?_);rw[if_neg h0,decide_eq_false h1];simp only[spec_l1FourAt.j0];rw[if_neg (by decide),w1,w2,w3,if_pos (by omega),if_pos (by omega),if_pos (by omega),if_pos (by omega),if_pos (by omega),if_pos (by omega),if_pos (by omega),if_pos (by omega),Option.some.inj h]
theorem cut_in {b:List Int} (hb:BytesIn b) (m n:Nat):∀x ∈ (b.take m).drop n,0≤x∧x≤255:=fun x hx=>hb.mem x (List.mem_of_mem_take (List.mem_of_mem_drop hx))
theorem specUnframe_ev (b:List Int) (hb:BytesIn b) (hn:b.length≤140737488000000) (i:Int) (hi:i≤9223372036854775807):Ev (fun k=>spec_Unframe.f k b i) (unframeR b i):=by
 unfold spec_Unframe.f unframeR;refine Ev.bind' (specFour_ev b hb (by omega) i hi) ?_;by_cases hc:0≤i∧i≤(b.length:Int)-4
 ·simp only[hc,and_self,if_true];have hw4:wrap64 (i+4)=i+4:=wrap_id (by omega) (by omega);rw[hw4];refine Ev.bind' (spec_getNum_ev b hb (by omega) (i+4) (by omega)) ?_;have hr:=getR_range b hb (i+4) 5 0 0 (Int.le_refl 0) (Int.le_refl 0);unfold textR;generalize getR b (i+4) 5 0 0=g at hr ⊢
  have jt:Ev (fun k=>spec_Unframe.j0 k b i (wordR b i) g.1 g.2.1 true) ([],i,false):=Ev.ends (fun k=>by simp only[spec_Unframe.j0];rw[if_pos trivial]);by_cases h1:g.2.2=true
  ·obtain⟨a1,a2,a3,a4,a5⟩:=hr h1;simp only[h1,if_true];rw[wrap_id (i:=(b.length:Int)-g.2.1) (by omega) (by omega)];by_cases h2:g.1>(b.length:Int)-g.2.1
   ·rw[decide_eq_true h2,if_pos h2,if_neg (fun h=>by simp at h)];exact jt
   ·rw[decide_eq_false h2,if_neg h2];have hcl:((b.take (g.2.1+g.1).toNat).drop g.2.1.toNat).length≤b.length:=by rw[List.length_drop,List.length_take];omega
    have hci:=cut_in hb (g.2.1+g.1).toNat g.2.1.toNat;have hbs:=bytes_str _ hci;simp only[true_and];rw[hbs];refine Ev.step (f:=fun k=>(spec_Sum.f k ((b.take (g.2.1+g.1).toNat).drop g.2.1.toNat)).bind fun t=>(if t=wordR b i then (some ((b.take (g.2.1+g.1).toNat).drop g.2.1.toNat,g.2.1+g.1,true)) else (some (([]:List Int),i,false)))) (fun k=>?_) ?_
    ·simp only[spec_Unframe.j0,Option.bind_some];rw[if_neg (by decide),wrap_id (i:=g.2.1+g.1) (by omega) (by omega),if_pos (by omega),if_pos (by omega),if_pos (by omega),if_pos (by rw[List.length_nil];omega),List.nil_append]
    ·refine Ev.bind' (spec_sum_ev _ (BytesIn.of_mem hci) (by omega)) ?_;by_cases hs:sumN ((b.take (g.2.1+g.1).toNat).drop g.2.1.toNat)=wordR b i
     ·simp only[hs,if_true];exact Ev.now _
     ·simp only[hs,if_false];exact Ev.now _
  ·simp only[h1,if_false];rw[if_neg (fun h=>by simp at h)];exact jt
 ·simp only[hc,if_false];exact Ev.now _
theorem implUnframe_any (b:List Int) (hb:BytesIn b) (hn:b.length≤281474976710000) (i:Int) (h1:i≤9223372036854775807):Ev (fun k=>impl_Unframe.f k b i) (unframeR b i):=by
 by_cases hc:0≤i∧i≤(b.length:Int)-4
 ·obtain⟨j,rfl⟩:∃j:Nat,i=(j:Int):=⟨i.toNat,by omega⟩;exact implUnframe_ev b hb hn j (by omega)
 ·have hw:wrap64 ((b.length:Int)-4)=(b.length:Int)-4:=wrap_id (by omega) (by omega);unfold unframeR;rw[if_neg hc];simp only[impl_Unframe.f,in_eq,hw,Option.bind_some]
  have hd:(decide (0≤i)&&decide (i≤(b.length:Int)-4))=false:=by
   rw[Bool.and_eq_false_iff];by_cases h:0≤i
   ·exact .inr (decide_eq_false (fun h2=>hc ⟨h,h2⟩))
   ·exact .inl (decide_eq_false h)
  exact Ev.all (fun k=>by rw[if_neg (by rw[hd];decide)])
theorem unframeR_len (b:List Int) (i:Int):(unframeR b i).1.length≤b.length:=by
 unfold unframeR;split
 ·split
  ·dsimp only;rw[bytesOf_length];exact textR_size b (i+4)
  ·exact Nat.zero_le _
 ·exact Nat.zero_le _
theorem spec_getText_ev (b:List Int) (hb:BytesIn b) (hn:b.length≤281474976710656) (at_:Int) (ha:at_≤9223372036854775807):Ev (fun q=>spec_GetText.f q b at_) (textR b at_):=by
 obtain⟨K,h⟩:=spec_getNum_ev b hb (by omega) at_ ha;dsimp only at h;refine⟨K,fun q hq=>?_⟩;simp only[spec_GetText.f];rw[h q hq,Option.bind_some];unfold textR;have hr:=getR_range b hb at_ 5 0 0 (Int.le_refl 0) (Int.le_refl 0);generalize getR b at_ 5 0 0=g at hr ⊢
 by_cases h1:g.2.2=true
 ·obtain⟨a1,a2,a3,a4,a5⟩:=hr h1;rw[if_pos h1,if_pos h1,wrap_id (i:=(b.length:Int)-g.2.1) (by omega) (by omega)];by_cases h2:g.1>(b.length:Int)-g.2.1
  ·rw[if_pos h2,if_pos h2]
  ·rw[if_neg h2,if_neg h2,wrap_id (i:=g.2.1+g.1) (by omega) (by omega),if_pos (by omega),if_pos (by omega),if_pos (by omega)]
 ·rw[if_neg h1,if_neg h1]
def Rel {α β:Type} (Q:α→β→Prop) (f:Nat→Option α) (g:Nat→Option β):Prop:=∃r s,Q r s∧Ev f r∧Ev g s
namespace Rel
variable {α β:Type} {Q:α→β→Prop} {f f':Nat→Option α} {g g':Nat→Option β}
theorem step (h1:∀k,f (k+1)=f' k) (h2:∀k,g (k+1)=g' k) (h:Rel Q f' g'):Rel Q f g:=by
 obtain⟨r,s,hp,a,b⟩:=h;exact⟨r,s,hp,Ev.step h1 a,Ev.step h2 b⟩
theorem left (h1:∀k,f (k+1)=f' k) (h:Rel Q f' g):Rel Q f g:=by
 obtain⟨r,s,hp,a,b⟩:=h;exact⟨r,s,hp,Ev.step h1 a,b⟩
theorem right (h2:∀k,g (k+1)=g' k) (h:Rel Q f g'):Rel Q f g:=by
 obtain⟨r,s,hp,a,b⟩:=h;exact⟨r,s,hp,a,Ev.step h2 b⟩
theorem ret (r:α) (s:β) (h:Q r s):Rel Q (fun _=>some r) (fun _=>some s):=⟨r,s,h,Ev.now r,Ev.now s⟩
theorem ite {c:Prop} [Decidable c] (h1:c→Rel Q f g) (h2:¬c→Rel Q f' g'):Rel Q (fun k=>if c then f k else f' k) (fun k=>if c then g k else g' k):=by
 by_cases h:c
 ·simpa only [if_pos h] using h1 h
 ·simpa only [if_neg h] using h2 h
theorem bind {α' β':Type} {R:α'→β'→Prop} {p:Nat→Option α'} {q:Nat→Option β'} {F:Nat→α'→Option α} {G:Nat→β'→Option β} (h:Rel R p q) (k:∀b c,R b c→Rel Q (fun n=>F n b) (fun n=>G n c)):Rel Q (fun n=>(p n).bind (F n)) (fun n=>(q n).bind (G n)):=by
 obtain⟨b,c,hq,h1,h2⟩:=h;obtain⟨r,s,hp,a,e⟩:=k b c hq;exact⟨r,s,hp,Ev.bind h1 a,Ev.bind h2 e⟩
theorem mono {Q':α→β→Prop} (h:Rel Q f g) (hi:∀r s,Q r s→Q' r s):Rel Q' f g:=by
 obtain⟨r,s,hp,a,b⟩:=h;exact⟨r,s,hi r s hp,a,b⟩
end Rel
theorem getR_bad (b:List Int) (at_:Int):∀(d:Nat) (n k:Int),(getR b at_ d n k).2.2=false→getR b at_ d n k=(0,0,false):=by
 intro d
 induction d with
 |zero=>intro n k _;rfl
 |succ d ih=>
  intro n k h;unfold getR at h ⊢;split at h
  ·rename_i c1;rw[if_pos c1];split at h
   ·rename_i c2;rw[if_pos c2]
   ·rename_i c2;rw[if_neg c2];split at h
    ·rename_i c3;rw[if_pos c3];split at h
     ·rename_i c4;rw[if_pos c4]
     ·simp at h
    ·rename_i c3;rw[if_neg c3];exact ih _ _ h
  ·rename_i c1;rw[if_neg c1]
theorem textR_bad (b:List Int) (at_:Int) (h:(textR b at_).2.2=false):textR b at_=((⟨#[]⟩:ByteArray),0,false):=by
 unfold textR at h ⊢;split at h
 ·rename_i c1;rw[if_pos c1];split at h
  ·rename_i c2;rw[if_pos c2]
  ·simp at h
 ·rename_i c1;rw[if_neg c1]
theorem textR_range (b:List Int) (hb:BytesIn b) (at_:Int) (h:(textR b at_).2.2=true):0≤at_∧at_+1≤(textR b at_).2.1∧(textR b at_).2.1≤(b.length:Int)∧((textR b at_).1.size:Int)+at_+1≤(textR b at_).2.1:=by
 unfold textR at h ⊢;have hr:=getR_range b hb at_ 5 0 0 (Int.le_refl 0) (Int.le_refl 0);generalize getR b at_ 5 0 0=g at hr h ⊢
 split at h
 ·rename_i c1;obtain⟨a1,a2,a3,a4,a5⟩:=hr c1;rw[if_pos c1];split at h
  ·simp at h
  ·rename_i c2;rw[if_neg c2];dsimp only;rw[strOf_size,List.length_drop,List.length_take];omega
 ·simp at h
theorem textR_small (b:List Int) (hb:BytesIn b) (at_:Int) (hl:b.length≤1048576):(textR b at_).1.size≤1048576:=by
 cases h:(textR b at_).2.2 with
 |true=>have:=textR_range b hb at_ h;omega
 |false=>rw[textR_bad b at_ h];exact Nat.zero_le _
def numP (b:List Int) (a:Int) (bad:Bool):Int × Int × Bool:=if bad=true then (0,a,true) else if (getR b a 5 0 0).2.2=true then ((getR b a 5 0 0).1,(getR b a 5 0 0).2.1,false) else (0,a,true)
def textP (b:List Int) (a:Int) (bad:Bool):ByteArray × Int × Bool:=if bad=true then ((⟨#[]⟩:ByteArray),a,true) else if (textR b a).2.2=true then ((textR b a).1,(textR b a).2.1,false) else ((⟨#[]⟩:ByteArray),a,true)
def oneP (b:List Int) (a:Int) (bad:Bool):Int × Int × Bool:=if bad=true then (0,a,true) else if a≥(b.length:Int) then (0,a,true) else (rd b a,a+1,false)
def flagP (b:List Int) (a:Int) (bad:Bool):Bool × Int × Bool:=((oneP b a bad).1 == 1,(oneP b a bad).2.1,if (oneP b a bad).2.2=true then true else decide ((oneP b a bad).1>1))
theorem num_ev (b:List Int) (hb:BytesIn b) (hn:b.length≤1048576) (a:Int) (ha:a≤4611686018427387904) (bad:Bool):Ev (fun k=>impl_reader_num.f k b a bad) (numP b a bad):=by
 simp only[impl_reader_num.f];refine Ev.bind (impl_getNum_ev b hb (by omega) a (by omega)) ?_;unfold numP;generalize getR b a 5 0 0=g
 cases bad with
 |true=>
  simp only[if_true];refine Ev.step (fun k=>impl_reader_num.j0.eq_2 ..) ?_;simp only[if_true];exact Ev.now _
 |false=>
  simp only[Bool.false_eq_true,if_false];refine Ev.step (fun k=>impl_reader_num.j0.eq_2 ..) ?_;obtain⟨g1,g2,g3⟩:=g;cases g3 with
  |true=>simp only[Bool.not_true,Bool.false_eq_true,if_false,if_true];exact Ev.now _
  |false=>simp only[Bool.not_false,Bool.false_eq_true,if_false,if_true];exact Ev.now _
theorem text_ev (b:List Int) (hb:BytesIn b) (hn:b.length≤1048576) (a:Int) (ha:a≤4611686018427387904) (bad:Bool):Ev (fun k=>impl_reader_text.f k b a bad) (textP b a bad):=by
 simp only[impl_reader_text.f];refine Ev.bind (impl_getText_ev b hb (by omega) a (by omega)) ?_;unfold textP;generalize textR b a=g
 cases bad with
 |true=>
  simp only[if_true];refine Ev.step (fun k=>impl_reader_text.j0.eq_2 ..) ?_;simp only[if_true];exact Ev.now _
 |false=>
  simp only[Bool.false_eq_true,if_false];refine Ev.step (fun k=>impl_reader_text.j0.eq_2 ..) ?_;obtain⟨g1,g2,g3⟩:=g;cases g3 with
  |true=>simp only[Bool.not_true,Bool.false_eq_true,if_false,if_true];exact Ev.now _
  |false=>simp only[Bool.not_false,Bool.false_eq_true,if_false,if_true];exact Ev.now _
theorem one_ev (b:List Int) (hb:BytesIn b) (a:Int) (h0:0≤a) (ha:a≤4611686018427387904) (bad:Bool):Ev (fun k=>impl_reader_one.f k b a bad) (oneP b a bad):=by
 simp only[impl_reader_one.f];unfold oneP;cases bad with
 |true=>
  simp only[if_true];refine Ev.step (fun k=>impl_reader_one.j0.eq_2 ..) ?_;simp only[if_true];exact Ev.now _
 |false=>
  simp only[Bool.false_eq_true,if_false];refine Ev.step (fun k=>impl_reader_one.j0.eq_2 ..) ?_;by_cases h:a≥(b.length:Int)
  ·simp only[decide_eq_true h,if_true,if_pos h];exact Ev.now _
  ·have w1:wrap64 (a+1)=a+1:=wrap_id (by omega) (by omega);have w2:wrap64 (a+1-1)=a:=(wrap_id (by omega) (by omega)).trans (by omega);have hr:=hb a;have w3:wrap64 (rd b a)=rd b a:=wrap_id (by omega) (by omega);simp only[decide_eq_false h,Bool.false_eq_true,if_false,w1,w2,w3,if_pos h0,if_neg h,if_pos (show a<(b.length:Int) by omega)];exact Ev.now _
theorem flag_ev (b:List Int) (hb:BytesIn b) (a:Int) (h0:0≤a) (ha:a≤4611686018427387904) (bad:Bool):Ev (fun k=>impl_reader_flag.f k b a bad) (flagP b a bad):=by
 simp only[impl_reader_flag.f];refine Ev.bind (one_ev b hb a h0 ha bad) ?_;unfold flagP;obtain⟨g1,g2,g3⟩:=oneP b a bad;cases g3 with
 |true=>simp only[if_true];exact Ev.now _
 |false=>simp only[Bool.false_eq_true,if_false];exact Ev.now _
def blkOk (b:List Int) (pos:Int) (sz:Nat):Prop:=
 (getR b pos 5 0 0).2.2=true∧(textR b (getR b pos 5 0 0).2.1).2.2=true∧(getR b pos 5 0 0).1≤(sz:Int)∧(textR b (getR b pos 5 0 0).2.1).2.1<(b.length:Int)∧rd b (textR b (getR b pos 5 0 0).2.1).2.1≤1∧(textR b ((textR b (getR b pos 5 0 0).2.1).2.1+1)).2.2=true
def blkKey (b:List Int) (pos:Int) (last:ByteArray):ByteArray:=last.extract 0 (getR b pos 5 0 0).1.toNat++(textR b (getR b pos 5 0 0).2.1).1
def blkPair (b:List Int) (pos:Int) (last:ByteArray):S87:=⟨blkKey b pos last,(textR b ((textR b (getR b pos 5 0 0).2.1).2.1+1)).1,rd b (textR b (getR b pos 5 0 0).2.1).2.1 == 1⟩
def blkNext (b:List Int) (pos:Int):Int:=(textR b ((textR b (getR b pos 5 0 0).2.1).2.1+1)).2.1
theorem blk_range (b:List Int) (hb:BytesIn b) (pos:Int) (last:ByteArray) (h:blkOk b pos last.size) (hp:(last.size:Int)≤pos) :
 0≤pos∧pos+1≤blkNext b pos∧blkNext b pos≤(b.length:Int)∧((blkKey b pos last).size:Int)≤blkNext b pos∧(blkPair b pos last).f1.size≤b.length:=by
 obtain⟨h1,h2,h3,h4,h5,h6⟩:=h;unfold blkNext blkPair blkKey;obtain⟨a1,a2,a3,a4,a5⟩:=getR_range b hb pos 5 0 0 (Int.le_refl 0) (Int.le_refl 0) h1;obtain⟨b1,b2,b3,b4⟩:=textR_range b hb _ h2;obtain⟨c1,c2,c3,c4⟩:=textR_range b hb _ h6;dsimp only;rw[ByteArray.size_append,ByteArray.size_extract];refine⟨a4,by omega,c3,by omega,by omega⟩
theorem spec_pairs_bad (b:List Int) (hb:BytesIn b) (hn:b.length≤1048576) (out:List S87) (last:ByteArray) (hl:last.size≤1048576) (pos:Int) (h0:0≤pos) (hp:pos<(b.length:Int)) (h:¬blkOk b pos last.size):Ev (fun k=>spec_l5Pairs.l0 k out b last pos) (out,false):=by
 refine Ev.step (fun k=>spec_l5Pairs.l0.eq_2 ..) ?_;simp only[if_pos hp];refine Ev.bind (spec_getNum_ev b hb (by omega) pos (by omega)) ?_;have hg:=getR_range b hb pos 5 0 0 (Int.le_refl 0) (Int.le_refl 0);unfold blkOk at h;by_cases h1:(getR b pos 5 0 0).2.2=true
 ·obtain⟨a1,a2,a3,a4,a5⟩:=hg h1;refine Ev.bind (spec_getText_ev b hb (by omega) _ (by omega)) ?_;simp only[if_pos h1];have ht:=textR_range b hb (getR b pos 5 0 0).2.1;by_cases h2:(textR b (getR b pos 5 0 0).2.1).2.2=true
  ·obtain⟨b1,b2,b3,b4⟩:=ht h2;simp only[if_pos h2];by_cases h3:(getR b pos 5 0 0).1>(last.size:Int)
   ·simp only[if_pos h3];refine Ev.step (fun k=>spec_l5Pairs.j1.eq_2 ..) ?_;simp only[if_true];exact Ev.now _
   ·simp only[if_neg h3];by_cases h4:(textR b (getR b pos 5 0 0).2.1).2.1≥(b.length:Int)
    ·simp only[if_pos h4];refine Ev.step (fun k=>spec_l5Pairs.j1.eq_2 ..) ?_;simp only[if_true];exact Ev.now _
    ·simp only[if_neg h4,if_pos (show 0≤(textR b (getR b pos 5 0 0).2.1).2.1 by omega),if_pos (show (textR b (getR b pos 5 0 0).2.1).2.1<(b.length:Int) by omega)];by_cases h5:rd b (textR b (getR b pos 5 0 0).2.1).2.1>1
     ·simp only[decide_eq_true h5];refine Ev.step (fun k=>spec_l5Pairs.j1.eq_2 ..) ?_;simp only[if_true];exact Ev.now _
     ·simp only[decide_eq_false h5];refine Ev.step (fun k=>spec_l5Pairs.j1.eq_2 ..) ?_;have w1:wrap64 ((textR b (getR b pos 5 0 0).2.1).2.1+1)=(textR b (getR b pos 5 0 0).2.1).2.1+1:=wrap_id (by omega) (by omega);simp only[Bool.false_eq_true,if_false,w1];refine Ev.bind (spec_getText_ev b hb (by omega) _ (by omega)) ?_;have h6:¬(textR b ((textR b (getR b pos 5 0 0).2.1).2.1+1)).2.2=true:=fun h6=>h ⟨h1,h2,by omega,by omega,by omega,h6⟩
      simp only[if_neg h6];exact Ev.now _
  ·simp only[if_neg h2];refine Ev.step (fun k=>spec_l5Pairs.j1.eq_2 ..) ?_;simp only[if_true];exact Ev.now _
 ·have hz:=getR_bad b pos 5 0 0 (eq_false_of_ne_true h1);refine Ev.bind (spec_getText_ev b hb (by omega) _ (by rw[hz];dsimp only;omega)) ?_;simp only[if_neg h1];refine Ev.step (fun k=>spec_l5Pairs.j1.eq_2 ..) ?_;simp only[if_true];exact Ev.now _
theorem spec_pairs_good (b:List Int) (hb:BytesIn b) (hn:b.length≤1048576) (out:List S87) (ho:out.length≤1048576) (last:ByteArray) (hl:last.size≤1048576) (pos:Int) (hp:pos<(b.length:Int)) (h:blkOk b pos last.size) (r:List S87 × Bool)
 (k:Ev (fun k=>spec_l5Pairs.l0 k (out++[blkPair b pos last]) b (blkKey b pos last) (blkNext b pos)) r):Ev (fun k=>spec_l5Pairs.l0 k out b last pos) r:=by
 obtain⟨h1,h2,h3,h4,h5,h6⟩:=h;obtain⟨a1,a2,a3,a4,a5⟩:=getR_range b hb pos 5 0 0 (Int.le_refl 0) (Int.le_refl 0) h1;obtain⟨b1,b2,b3,b4⟩:=textR_range b hb _ h2;obtain⟨c1,c2,c3,c4⟩:=textR_range b hb _ h6;refine Ev.step (fun k=>spec_l5Pairs.l0.eq_2 ..) ?_;simp only[if_pos hp];refine Ev.bind (spec_getNum_ev b hb (by omega) pos (by omega)) ?_;refine Ev.bind (spec_getText_ev b hb (by omega) _ (by omega)) ?_;simp only[if_pos h1,if_pos h2,if_neg (show ¬(getR b pos 5 0 0).1>(last.size:Int) by omega),if_neg (show ¬(textR b (getR b pos 5 0 0).2.1).2.1≥(b.length:Int) by omega),if_pos (show 0≤(textR b (getR b pos 5 0 0).2.1).2.1 by omega),if_pos h4,decide_eq_false (show ¬rd b (textR b (getR b pos 5 0 0).2.1).2.1>1 by omega)];refine Ev.step (fun k=>spec_l5Pairs.j1.eq_2 ..) ?_;have w1:wrap64 ((textR b (getR b pos 5 0 0).2.1).2.1+1)=(textR b (getR b pos 5 0 0).2.1).2.1+1:=wrap_id (by omega) (by omega);simp only[Bool.false_eq_true,if_false,w1];refine Ev.bind (spec_getText_ev b hb (by omega) _ (by omega)) ?_;have hs:(last.extract 0 (getR b pos 5 0 0).1.toNat).size+(textR b (getR b pos 5 0 0).2.1).1.size≤9223372036854775807:=by rw[ByteArray.size_extract];omega
 simp only[if_pos h6,if_pos a1,if_pos h3,if_pos hs,if_pos (show 0≤(textR b (getR b pos 5 0 0).2.1).2.1 by omega),if_pos h4,if_pos (show out.length<3518437208883 by omega)];exact k
theorem impl_pairs_end (b:List Int) (out:List S87) (last:ByteArray) (pos:Int) (bad:Bool) (h:bad=true∨¬pos<(b.length:Int)):Ev (fun k=>impl_pairsAtR.l0 k b out last b pos bad) (out,!bad,pos,bad):=by
 refine Ev.step (fun k=>impl_pairsAtR.l0.eq_2 ..) ?_
 have e:(fun k=>if pos<(b.length:Int) then impl_pairsAtR.j1 k b out last (!bad) b pos bad else impl_pairsAtR.j1 k b out last false b pos bad)=fun k=>impl_pairsAtR.j1 k b out last false b pos bad:=by
  funext k
  rcases h with rfl|h
  ·simp
  ·rw[if_neg h]
 rw[e];refine Ev.step (fun k=>impl_pairsAtR.j1.eq_2 ..) ?_;simp only[Bool.false_eq_true,if_false];exact Ev.now _
theorem impl_pairs_round (b:List Int) (hb:BytesIn b) (hn:b.length≤1048576) (out:List S87) (ho:out.length≤1048576) (last:ByteArray) (hl:last.size≤1048576) (pos:Int) (h0:0≤pos) (hp:pos<(b.length:Int))
 (N:Int × Int × Bool) (hN:numP b pos false=N) (T:ByteArray × Int × Bool) (hT:textP b N.2.1 N.2.2=T) (F:Bool × Int × Bool) (hF:flagP b T.2.1 T.2.2=F) (U:ByteArray × Int × Bool) (hU:textP b F.2.1 F.2.2=U)
 (n0:0≤N.1) (n1:0≤N.2.1∧N.2.1≤1048576) (t1:0≤T.2.1∧T.2.1≤1048576) (ts:T.1.size≤1048576) (f1:F.2.1≤1048577) (r:List S87 × Bool × Int × Bool)
 (h:if N.1>(last.size:Int) then r=([],false,U.2.1,U.2.2) else Ev (fun k=>impl_pairsAtR.l0 k b (out++[(⟨last.extract 0 N.1.toNat++T.1,U.1,F.1⟩:S87)]) (last.extract 0 N.1.toNat++T.1) b U.2.1 U.2.2) r) :
 Ev (fun k=>impl_pairsAtR.l0 k b out last b pos false) r:=by
 refine Ev.step (fun k=>impl_pairsAtR.l0.eq_2 ..) ?_;simp only[if_pos hp,Bool.not_false];refine Ev.step (fun k=>impl_pairsAtR.j1.eq_2 ..) ?_;simp only[if_true];refine Ev.bind (num_ev b hb hn pos (by omega) false) ?_;simp only[hN];refine Ev.bind (text_ev b hb hn N.2.1 (by omega) N.2.2) ?_;simp only[hT];refine Ev.bind (flag_ev b hb T.2.1 (by omega) (by omega) T.2.2) ?_;simp only[hF];have m0:0≤mn N.1 (last.size:Int):=by unfold mn;split<;>omega
 have m1:mn N.1 (last.size:Int)≤(last.size:Int):=by unfold mn;split<;>omega
 have m2:(last.extract 0 (mn N.1 (last.size:Int)).toNat).size+T.1.size≤9223372036854775807:=by rw[ByteArray.size_extract];omega
 simp only[if_pos m0,if_pos m1,if_pos m2];refine Ev.bind (text_ev b hb hn F.2.1 (by omega) F.2.2) ?_;simp only[hU];by_cases hc:N.1>(last.size:Int)
 ·rw[if_pos hc]at h;subst h;simp only[if_pos hc];exact Ev.now _
 ·rw[if_neg hc]at h;have me:mn N.1 (last.size:Int)=N.1:=by unfold mn;split<;>omega
  simp only[if_neg hc,if_pos (show out.length<3518437208883 by omega),me];exact h
theorem textP_good {b:List Int} {a:Int} {bad:Bool} (h:(textP b a bad).2.2=false):bad=false∧(textR b a).2.2=true∧textP b a bad=((textR b a).1,(textR b a).2.1,false):=by
 unfold textP at h ⊢;cases bad with
 |true=>simp at h
 |false=>
  simp only[Bool.false_eq_true,if_false]at h ⊢;by_cases c:(textR b a).2.2=true
  ·exact⟨by simp,c,by rw[if_pos c]⟩
  ·rw[if_neg c]at h;simp at h
theorem numP_good {b:List Int} {a:Int} {bad:Bool} (h:(numP b a bad).2.2=false):bad=false∧(getR b a 5 0 0).2.2=true∧numP b a bad=((getR b a 5 0 0).1,(getR b a 5 0 0).2.1,false):=by
 unfold numP at h ⊢;cases bad with
 |true=>simp at h
 |false=>
  simp only[Bool.false_eq_true,if_false]at h ⊢;by_cases c:(getR b a 5 0 0).2.2=true
  ·exact⟨by simp,c,by rw[if_pos c]⟩
  ·rw[if_neg c]at h;simp at h
theorem flagP_good {b:List Int} {a:Int} {bad:Bool} (h:(flagP b a bad).2.2=false):bad=false∧a<(b.length:Int)∧rd b a≤1∧flagP b a bad=(rd b a == 1,a+1,false):=by
 unfold flagP oneP at h ⊢;cases bad with
 |true=>simp at h
 |false=>
  simp only[Bool.false_eq_true,if_false]at h ⊢;by_cases c:a≥(b.length:Int)
  ·simp[if_pos c]at h
  ·simp only[if_neg c,Bool.false_eq_true,if_false]at h ⊢;by_cases c2:rd b a>1
   ·simp[c2]at h
   ·exact⟨by simp,by omega,by omega,by rw[decide_eq_false c2]⟩
theorem numP_range {b:List Int} (hb:BytesIn b) (hn:b.length≤1048576) {a:Int} (h0:0≤a) (h1:a≤1048576) (bad:Bool):0≤(numP b a bad).1∧0≤(numP b a bad).2.1∧(numP b a bad).2.1≤1048576:=by
 cases h:(numP b a bad).2.2 with
 |false=>
  obtain⟨_,c,e⟩:=numP_good h;obtain⟨a1,a2,a3,a4,a5⟩:=getR_range b hb a 5 0 0 (Int.le_refl 0) (Int.le_refl 0) c;rw[e];exact⟨a1,by dsimp only;omega,by dsimp only;omega⟩
 |true=>
  unfold numP at h ⊢;split at h
  ·rename_i c;rw[if_pos c];exact⟨Int.le_refl 0,h0,h1⟩
  ·rename_i c;rw[if_neg c];split at h
   ·simp at h
   ·rename_i c2;rw[if_neg c2];exact⟨Int.le_refl 0,h0,h1⟩
theorem textP_range {b:List Int} (hb:BytesIn b) (hn:b.length≤1048576) {a:Int} (h0:0≤a) (h1:a≤1048576) (bad:Bool):(textP b a bad).1.size≤1048576∧0≤(textP b a bad).2.1∧(textP b a bad).2.1≤1048576:=by
 cases h:(textP b a bad).2.2 with
 |false=>
  obtain⟨_,c,e⟩:=textP_good h;obtain⟨a1,a2,a3,a4⟩:=textR_range b hb a c;rw[e];exact⟨textR_small b hb a hn,by dsimp only;omega,by dsimp only;omega⟩
 |true=>
  unfold textP at h ⊢;split at h
  ·rename_i c;rw[if_pos c];exact⟨Nat.zero_le _,h0,h1⟩
  ·rename_i c;rw[if_neg c];split at h
   ·simp at h
   ·rename_i c2;rw[if_neg c2];exact⟨Nat.zero_le _,h0,h1⟩
theorem flagP_le {b:List Int} {a:Int} (h1:a≤1048576) (bad:Bool):(flagP b a bad).2.1≤1048577:=by
 unfold flagP oneP;dsimp only;split
 ·dsimp only;omega
 ·split<;>(dsimp only;omega)
def PQ (n:Nat) (r:List S87 × Bool) (s:List S87 × Bool × Int × Bool):Prop:=r.2=s.2.1∧r.1.length≤n∧(r.2=true→r.1=s.1∧SizesIn r.1)
theorem SizesIn.snoc {l:List S87} (h:SizesIn l) {x:S87} (h0:x.f0.size≤1048576) (h1:x.f1.size≤1048576):SizesIn (l++[x]):=by
 intro y hy
 rcases List.mem_append.1 hy with h2|h2
 ·exact h y h2
 ·rw[List.mem_singleton]at h2;subst h2;exact⟨h0,h1⟩
theorem pairs_rel (b:List Int) (hb:BytesIn b) (hn:b.length≤1048576):∀(d pos:Nat) (out:List S87) (last:ByteArray),b.length≤pos+d→pos≤b.length→last.size≤pos→out.length≤pos→SizesIn out →
 Rel (PQ 1048576) (fun k=>spec_l5Pairs.l0 k out b last (pos:Int)) (fun k=>impl_pairsAtR.l0 k b out last b (pos:Int) false):=by
 intro d
 induction d with
 |zero=>
  intro pos out last h1 h2 h3 h4 h5;refine⟨(out,true),(out,true,(pos:Int),false),⟨rfl,by dsimp only;omega,fun _=>⟨rfl,h5⟩⟩,?_,impl_pairs_end b out last pos false (Or.inr (by omega))⟩;refine Ev.step (fun k=>spec_l5Pairs.l0.eq_2 ..) ?_;simp only[if_neg (show ¬(pos:Int)<(b.length:Int) by omega)];exact Ev.now _
 |succ d ih=>
  intro pos out last h1 h2 h3 h4 h5;by_cases hp:(pos:Int)<(b.length:Int)
  ·by_cases hk:blkOk b (pos:Int) last.size
   ·obtain⟨r1,r2,r3,r4,r5⟩:=blk_range b hb (pos:Int) last hk (by omega);obtain⟨q,hq⟩:∃q:Nat,blkNext b (pos:Int)=(q:Int):=⟨(blkNext b (pos:Int)).toNat,by omega⟩;have hks:(blkKey b (pos:Int) last).size≤q:=by omega
    obtain⟨r,s,hrs,e1,e2⟩:=ih q (out++[blkPair b (pos:Int) last]) (blkKey b (pos:Int) last) (by omega) (by omega) hks (by rw[List.length_append,List.length_singleton];omega) (h5.snoc (by show (blkKey b (pos:Int) last).size≤1048576;omega) (by omega));refine⟨r,s,hrs,spec_pairs_good b hb hn out (by omega) last (by omega) (pos:Int) hp hk r (by rw[hq];exact e1),?_⟩;obtain⟨k1,k2,k3,k4,k5,k6⟩:=hk;obtain⟨a1,a2,a3,a4,a5⟩:=getR_range b hb (pos:Int) 5 0 0 (Int.le_refl 0) (Int.le_refl 0) k1;obtain⟨b1,b2,b3,b4⟩:=textR_range b hb _ k2;have hN:numP b (pos:Int) false=((getR b (pos:Int) 5 0 0).1,(getR b (pos:Int) 5 0 0).2.1,false):=by unfold numP;rw[if_neg (by simp),if_pos k1]
    have hT:textP b (getR b (pos:Int) 5 0 0).2.1 false=((textR b (getR b (pos:Int) 5 0 0).2.1).1,(textR b (getR b (pos:Int) 5 0 0).2.1).2.1,false):=by unfold textP;rw[if_neg (by simp),if_pos k2]
    have hF:flagP b (textR b (getR b (pos:Int) 5 0 0).2.1).2.1 false=(rd b (textR b (getR b (pos:Int) 5 0 0).2.1).2.1 == 1,(textR b (getR b (pos:Int) 5 0 0).2.1).2.1+1,false):=by
     unfold flagP oneP;simp only[Bool.false_eq_true,if_false,if_neg (show ¬(textR b (getR b (pos:Int) 5 0 0).2.1).2.1≥(b.length:Int) by omega),decide_eq_false (show ¬rd b (textR b (getR b (pos:Int) 5 0 0).2.1).2.1>1 by omega)]
    have hU:textP b ((textR b (getR b (pos:Int) 5 0 0).2.1).2.1+1) false=((textR b ((textR b (getR b (pos:Int) 5 0 0).2.1).2.1+1)).1,(textR b ((textR b (getR b (pos:Int) 5 0 0).2.1).2.1+1)).2.1,false):=by unfold textP;rw[if_neg (by simp),if_pos k6]
    refine impl_pairs_round b hb hn out (by omega) last (by omega) (pos:Int) (by omega) hp _ hN _ hT _ hF _ hU a1 ⟨by dsimp only;omega,by dsimp only;omega⟩ ⟨by dsimp only;omega,by dsimp only;omega⟩ (textR_small b hb _ hn) (by dsimp only;omega) s ?_;rw[if_neg (by dsimp only;omega)];have e3:(blkNext b (pos:Int))=(textR b ((textR b (getR b (pos:Int) 5 0 0).2.1).2.1+1)).2.1:=rfl;dsimp only;rw[←e3,hq];exact e2
   ·have hS:=spec_pairs_bad b hb hn out last (by omega) (pos:Int) (by omega) hp hk;have rN:=numP_range hb hn (a:=(pos:Int)) (by omega) (by omega) false;have rT:=textP_range hb hn (a:=(numP b (pos:Int) false).2.1) rN.2.1 rN.2.2 (numP b (pos:Int) false).2.2;have rF:=flagP_le (b:=b) (a:=(textP b (numP b (pos:Int) false).2.1 (numP b (pos:Int) false).2.2).2.1) rT.2.2 (textP b (numP b (pos:Int) false).2.1 (numP b (pos:Int) false).2.2).2.2
    have hbad:¬(numP b (pos:Int) false).1>(last.size:Int)→(textP b (flagP b (textP b (numP b (pos:Int) false).2.1 (numP b (pos:Int) false).2.2).2.1 (textP b (numP b (pos:Int) false).2.1 (numP b (pos:Int) false).2.2).2.2).2.1 (flagP b (textP b (numP b (pos:Int) false).2.1 (numP b (pos:Int) false).2.2).2.1 (textP b (numP b (pos:Int) false).2.1 (numP b (pos:Int) false).2.2).2.2).2.2).2.2=true:=by
     intro hle;refine eq_true_of_ne_false (fun hf=>hk ?_);obtain⟨u1,u2,_⟩:=textP_good hf;obtain⟨f1,f2,f3,f4⟩:=flagP_good u1;obtain⟨t1,t2,t3⟩:=textP_good f1;obtain⟨_,n2,n3⟩:=numP_good t1;rw[f4,t3,n3]at u2;rw[t3,n3]at f2 f3;rw[n3]at t2 hle;dsimp only at u2 f2 f3 t2 hle;exact⟨n2,t2,by omega,f2,f3,u2⟩
    generalize hN:numP b (pos:Int) false=N at rN rT rF hbad
    generalize hT:textP b N.2.1 N.2.2=T at rT rF hbad
    generalize hF:flagP b T.2.1 T.2.2=F at rF hbad
    generalize hU:textP b F.2.1 F.2.2=U at hbad
    by_cases hc:N.1>(last.size:Int)
    ·refine⟨(out,false),([],false,U.2.1,U.2.2),⟨rfl,by dsimp only;omega,fun h=>by simp at h⟩,hS,impl_pairs_round b hb hn out (by omega) last (by omega) (pos:Int) (by omega) hp N hN T hT F hF U hU rN.1 rN.2 rT.2 rT.1 rF _ ?_⟩;rw[if_pos hc]
    ·refine⟨(out,false),(out++[(⟨last.extract 0 N.1.toNat++T.1,U.1,F.1⟩:S87)],false,U.2.1,U.2.2),⟨rfl,by dsimp only;omega,fun h=>by simp at h⟩,hS,impl_pairs_round b hb hn out (by omega) last (by omega) (pos:Int) (by omega) hp N hN T hT F hF U hU rN.1 rN.2 rT.2 rT.1 rF _ ?_⟩;rw[if_neg hc];have h6:=hbad hc;have e:=impl_pairs_end b (out++[(⟨last.extract 0 N.1.toNat++T.1,U.1,F.1⟩:S87)]) (last.extract 0 N.1.toNat++T.1) U.2.1 U.2.2 (Or.inl h6);rw[h6]at e ⊢;exact e
  ·refine⟨(out,true),(out,true,(pos:Int),false),⟨rfl,by dsimp only;omega,fun _=>⟨rfl,h5⟩⟩,?_,impl_pairs_end b out last pos false (Or.inr hp)⟩;refine Ev.step (fun k=>spec_l5Pairs.l0.eq_2 ..) ?_;simp only[if_neg hp];exact Ev.now _
theorem pairsAt_rel (b:List Int) (hb:BytesIn b) (hn:b.length≤1048576) (i:Int) (hi:i≤9223372036854775807):Rel (fun r s=>r.2=s.2∧r.1.length≤1048576∧(r.2=true→r.1=s.1∧SizesIn r.1)) (fun k=>spec_l5Pairs.f k b i) (fun k=>impl_pairsAt.f k b i):=by
 simp only[spec_l5Pairs.f,impl_pairsAt.f,impl_fkP.f,impl_pairsAtR.f,Option.bind_some];have hS:=specUnframe_ev b hb (by omega) i hi;have hI:=implUnframe_any b hb (by omega) i hi;have hl:=unframeR_len b i
 have hin:BytesIn (unframeR b i).1:=by
  unfold unframeR;split
  ·split
   ·exact bytesOf_in _
   ·exact BytesIn.nil
  ·exact BytesIn.nil
 generalize unframeR b i=u at hS hI hl hin
 by_cases hu:u.2.2=true
 ·obtain⟨r,s,⟨q1,q2,q3⟩,e1,e2⟩:=pairs_rel u.1 hin (by omega) u.1.length 0 [] ⟨#[]⟩ (by omega) (by omega) (Nat.le_refl 0) (by simp) (fun x hx=>by simp at hx);refine⟨r,(s.1,s.2.1),⟨q1,q2,q3⟩,Ev.bind hS ?_,Ev.bind hI ?_⟩
  ·simp only[if_pos hu];exact e1
  ·simp only[if_pos hu];refine Ev.bind (Ev.bind e2 (Ev.now _)) ?_;exact Ev.now _
 ·refine⟨([],false),([],false),⟨rfl,by simp,fun h=>by simp at h⟩,Ev.bind hS ?_,Ev.bind hI ?_⟩
  ·simp only[if_neg hu];exact Ev.now _
  ·simp only[if_neg hu];exact Ev.now _
theorem getR_next {b:List Int} (hb:BytesIn b) (a:Int):0≤(getR b a 5 0 0).2.1∧(getR b a 5 0 0).2.1≤(b.length:Int)∧0≤(getR b a 5 0 0).1:=by
 cases h:(getR b a 5 0 0).2.2 with
 |true=>
  obtain⟨a1,a2,a3,a4,a5⟩:=getR_range b hb a 5 0 0 (Int.le_refl 0) (Int.le_refl 0) h;exact⟨by omega,a5,a1⟩
 |false=>rw[getR_bad b a 5 0 0 h];exact⟨Int.le_refl 0,by dsimp only;omega,Int.le_refl 0⟩
theorem textR_next {b:List Int} (hb:BytesIn b) (a:Int):0≤(textR b a).2.1∧(textR b a).2.1≤(b.length:Int):=by
 cases h:(textR b a).2.2 with
 |true=>
  obtain⟨a1,a2,a3,a4⟩:=textR_range b hb a h;exact⟨by omega,a3⟩
 |false=>rw[textR_bad b a h];exact⟨Int.le_refl 0,by dsimp only;omega⟩
def idxOut (b:List Int) (out:List S84) (at_:Int) (bad:Bool):List S84 × List Int × Bool × Int × Bool:=
 if bad=true∨at_≠(b.length:Int)-8 then ([],[],false,at_,bad) else (out,[],true,at_,bad)
theorem impl_idx_end (b:List Int) (hn:b.length≤1048576) (n:Int) (out:List S84) (i at_:Int) (h0:0≤at_) (h1:at_≤(b.length:Int)) (bad:Bool) (h:bad=true∨¬i<n):Ev (fun k=>impl_indexOfR.l0 k b n out i b at_ bad) (idxOut b out at_ bad):=by
 refine Ev.step (fun k=>impl_indexOfR.l0.eq_2 ..) ?_
 have e:(fun k=>if i<n then impl_indexOfR.j1 k b n out i (!bad) b at_ bad else impl_indexOfR.j1 k b n out i false b at_ bad)=fun k=>impl_indexOfR.j1 k b n out i false b at_ bad:=by
  funext k
  rcases h with rfl|h
  ·simp
  ·rw[if_neg h]
 rw[e];refine Ev.step (fun k=>impl_indexOfR.j1.eq_2 ..) ?_;simp only[Bool.false_eq_true,if_false];have w:wrap64 ((b.length:Int)-8)=(b.length:Int)-8:=wrap_id (by omega) (by omega);unfold idxOut;cases bad with
 |true=>
  simp only[if_true,true_or];refine Ev.step (fun k=>impl_indexOfR.j2.eq_2 ..) ?_;simp only[if_true];exact Ev.now _
 |false=>
  simp only[Bool.false_eq_true,if_false,false_or,w];refine Ev.step (fun k=>impl_indexOfR.j2.eq_2 ..) ?_;by_cases c:at_=(b.length:Int)-8
  ·subst c;simp only[bne_self_eq_false,Bool.false_eq_true,if_false,ne_eq,not_true,if_pos h0,if_pos h1];exact Ev.now _
  ·have cb:(at_ != (b.length:Int)-8)=true:=by simpa using c
   simp only[cb,if_true,ne_eq,c,not_false_eq_true];exact Ev.now _
theorem impl_idx_round (b:List Int) (hb:BytesIn b) (hn:b.length≤1048576) (n:Int) (hnn:n≤1000000000) (out:List S84) (ho:out.length≤1048576) (i at_:Int) (i0:0≤i) (h0:0≤at_) (h1:at_≤1048576) (hi:i<n)
 (T:ByteArray × Int × Bool) (hT:textP b at_ false=T) (N:Int × Int × Bool) (hN:numP b T.2.1 T.2.2=N) (t1:T.2.1≤1048576) (r:List S84 × List Int × Bool × Int × Bool)
 (h:Ev (fun k=>impl_indexOfR.l0 k b n (out++[(⟨T.1,N.1⟩:S84)]) (i+1) b N.2.1 N.2.2) r):Ev (fun k=>impl_indexOfR.l0 k b n out i b at_ false) r:=by
 refine Ev.step (fun k=>impl_indexOfR.l0.eq_2 ..) ?_;simp only[if_pos hi,Bool.not_false];refine Ev.step (fun k=>impl_indexOfR.j1.eq_2 ..) ?_;simp only[if_true];refine Ev.bind (text_ev b hb hn at_ (by omega) false) ?_;simp only[hT];refine Ev.bind (num_ev b hb hn T.2.1 (by omega) T.2.2) ?_;simp only[hN,if_pos (show out.length<5864062014805 by omega),wrap_id (i:=i+1) (by omega) (by omega)];exact h
theorem spec_idx_end (b:List Int) (hn:b.length≤1048576) (n:Int) (keys:List ByteArray) (places:List Int) (at_ i:Int) (h0:0≤at_) (h1:at_≤(b.length:Int)) (ok:Bool) (h:ok=false∨¬i<n∨¬i<100) :
 Ev (fun k=>spec_l5Index.l0 k keys places b n at_ ok i) (if ok=true∧(keys.length:Int)=n∧(b.length:Int)-at_=8 then (keys,places,b.drop at_.toNat,true) else (keys,places,[],false)):=by
 refine Ev.step (fun k=>spec_l5Index.l0.eq_2 ..) ?_
 have e:(fun k=>if i<n then (if ok=true then spec_l5Index.j3 k keys places b n at_ ok i (decide (i<100)) else spec_l5Index.j3 k keys places b n at_ ok i false) else spec_l5Index.j3 k keys places b n at_ ok i false)=fun k=>spec_l5Index.j3 k keys places b n at_ ok i false:=by
  funext k
  rcases h with rfl|h|h
  ·simp
  ·rw[if_neg h]
  ·simp only[decide_eq_false h];split<;>(try rfl);split<;>rfl
 rw[e];refine Ev.step (fun k=>spec_l5Index.j3.eq_2 ..) ?_;simp only[Bool.false_eq_true,if_false];have w:wrap64 ((b.length:Int)-at_)=(b.length:Int)-at_:=wrap_id (by omega) (by omega);cases ok with
 |false=>
  simp only[Bool.false_eq_true,if_false,false_and];refine Ev.step (fun k=>spec_l5Index.j4.eq_2 ..) ?_;simp only[if_true];exact Ev.now _
 |true=>
  simp only[if_true,true_and,w];by_cases c:(keys.length:Int)=n
  ·subst c;simp only[if_true,true_and];refine Ev.step (fun k=>spec_l5Index.j4.eq_2 ..) ?_;by_cases c2:(b.length:Int)-at_=8
   ·simp only[c2,bne_self_eq_false,Bool.false_eq_true,if_false,if_pos h0,if_pos h1,if_true];exact Ev.now _
   ·have cb:((b.length:Int)-at_ != 8)=true:=by simpa using c2
    simp only[cb,if_true,if_neg c2];exact Ev.now _
  ·simp only[if_neg c,c,false_and,if_false];refine Ev.step (fun k=>spec_l5Index.j4.eq_2 ..) ?_;simp only[if_true];exact Ev.now _
theorem spec_idx_round (b:List Int) (hb:BytesIn b) (hn:b.length≤1048576) (n:Int) (keys:List ByteArray) (places:List Int) (hk:keys.length≤1000) (hp:places.length≤1000) (at_ i:Int) (h0:0≤at_) (h1:at_≤1048576) (i0:0≤i) (hi:i<n) (h2:i<100) (r:List ByteArray × List Int × List Int × Bool)
 (h:Ev (fun k=>spec_l5Index.l0 k (keys++[(textR b at_).1]) (places++[(getR b (textR b at_).2.1 5 0 0).1]) b n (getR b (textR b at_).2.1 5 0 0).2.1 (if (textR b at_).2.2=true then (getR b (textR b at_).2.1 5 0 0).2.2 else false) (i+1)) r):Ev (fun k=>spec_l5Index.l0 k keys places b n at_ true i) r:=by
 refine Ev.step (fun k=>spec_l5Index.l0.eq_2 ..) ?_;simp only[if_pos hi,if_true,decide_eq_true h2];refine Ev.step (fun k=>spec_l5Index.j3.eq_2 ..) ?_;simp only[if_true];refine Ev.bind (spec_getText_ev b hb (by omega) at_ (by omega)) ?_;have hx:=textR_next hb at_;refine Ev.bind (spec_getNum_ev b hb (by omega) _ (by omega)) ?_;simp only[if_pos (show keys.length<8796093022208 by omega),if_pos (show places.length<17592186044416 by omega),wrap_id (i:=i+1) (by omega) (by omega)];by_cases c:(textR b at_).2.2=true
 ·simp only[if_pos c]at h ⊢;exact h
 ·simp only[if_neg c]at h ⊢;exact h
theorem numP_le {b:List Int} (hb:BytesIn b) (a:Int) (bad:Bool):(numP b a bad).1≤1000000000:=by
 unfold numP;split
 ·dsimp only;omega
 ·split
  ·rename_i c;exact(getR_range b hb a 5 0 0 (Int.le_refl 0) (Int.le_refl 0) c).2.1
  ·dsimp only;omega
theorem f1_snoc {l:List S84} (h:∀x ∈ l,x.f1≤1000000000) {y:S84} (hy:y.f1≤1000000000):∀x ∈ l++[y],x.f1≤1000000000:=by
 intro x hx
 rcases List.mem_append.1 hx with h2|h2
 ·exact h x h2
 ·rw[List.mem_singleton]at h2;subst h2;exact hy
theorem impl_idx_comes (b:List Int) (hb:BytesIn b) (hn:b.length≤1048576) (n:Int) (hnn:n≤1000000000):∀(d:Nat) (at_:Nat) (out:List S84) (i:Int) (bad:Bool),b.length≤at_+d→at_≤b.length→out.length≤at_+(if bad=true then 1 else 0)→0≤i→(∀x ∈ out,x.f1≤1000000000) →
 ∃s,s.1.length≤1048577∧(s.2.2.1=false→s.1=[])∧(∀x ∈ s.1,x.f1≤1000000000)∧Ev (fun k=>impl_indexOfR.l0 k b n out i b (at_:Int) bad) s:=by
 have last:∀(at_:Nat) (out:List S84) (i:Int) (bad:Bool),at_≤b.length→out.length≤at_+(if bad=true then 1 else 0)→(bad=true∨¬i<n)→(∀x ∈ out,x.f1≤1000000000)→∃s,s.1.length≤1048577∧(s.2.2.1=false→s.1=[])∧(∀x ∈ s.1,x.f1≤1000000000)∧Ev (fun k=>impl_indexOfR.l0 k b n out i b (at_:Int) bad) s:=by
  intro at_ out i bad h2 h3 h h9;refine⟨_,?_,?_,?_,impl_idx_end b hn n out i (at_:Int) (by omega) (by omega) bad h⟩
  ·unfold idxOut;split
   ·simp
   ·dsimp only;split at h3<;>omega
  ·unfold idxOut;split
   ·intro _;rfl
   ·intro h;simp at h
  ·unfold idxOut;split
   ·intro x hx;simp at hx
   ·exact h9
 intro d
 induction d with
 |zero=>
  intro at_ out i bad h1 h2 h3 h4 h9;by_cases hc:bad=true∨¬i<n
  ·exact last at_ out i bad h2 h3 hc h9
  ·have hbd:bad=false:=by cases bad with|true=>exact absurd (Or.inl rfl) hc|false=>rfl
   subst hbd;have hi:i<n:=by by_cases hi:i<n;exact hi;exact absurd (Or.inr hi) hc
   simp only[Bool.false_eq_true,if_false,Nat.add_zero]at h3
   have tb:(textR b (at_:Int)).2.2=false:=by
    cases ht:(textR b (at_:Int)).2.2 with
    |false=>rfl
    |true=>have:=textR_range b hb _ ht;omega
   have hT:textP b (at_:Int) false=((⟨#[]⟩:ByteArray),(at_:Int),true):=by unfold textP;rw[if_neg (by simp),if_neg (by rw[tb];simp)]
   obtain⟨s,s1,s2,s9,s3⟩:=last at_ (out++[(⟨⟨#[]⟩,0⟩:S84)]) (i+1) true h2 (by rw[List.length_append,List.length_singleton,if_pos rfl];omega) (Or.inl rfl) (f1_snoc h9 (by dsimp only;omega));exact⟨s,s1,s2,s9,impl_idx_round b hb hn n hnn out (by omega) i (at_:Int) h4 (by omega) (by omega) hi _ hT (0,(at_:Int),true) (by unfold numP;rw[if_pos rfl]) (by dsimp only;omega) s s3⟩
 |succ d ih=>
  intro at_ out i bad h1 h2 h3 h4 h9;by_cases hc:bad=true∨¬i<n
  ·exact last at_ out i bad h2 h3 hc h9
  ·have hbd:bad=false:=by cases bad with|true=>exact absurd (Or.inl rfl) hc|false=>rfl
   subst hbd;have hi:i<n:=by by_cases hi:i<n;exact hi;exact absurd (Or.inr hi) hc
   simp only[Bool.false_eq_true,if_false,Nat.add_zero]at h3;have rT:=textP_range hb hn (a:=(at_:Int)) (by omega) (by omega) false;have rN:=numP_range hb hn (a:=(textP b (at_:Int) false).2.1) rT.2.1 rT.2.2 (textP b (at_:Int) false).2.2;cases hz:(numP b (textP b (at_:Int) false).2.1 (textP b (at_:Int) false).2.2).2.2 with
   |false=>
    obtain⟨n1,n2,n3⟩:=numP_good hz;obtain⟨_,t2,t3⟩:=textP_good n1;have q1:=textR_range b hb _ t2;have q2:=getR_range b hb _ 5 0 0 (Int.le_refl 0) (Int.le_refl 0) n2;rw[t3]at q2;dsimp only at q2;obtain⟨q,hq⟩:∃q:Nat,(numP b (textP b (at_:Int) false).2.1 (textP b (at_:Int) false).2.2).2.1=(q:Int):=⟨_,(Int.toNat_of_nonneg rN.2.1).symm⟩;have hq2:(q:Int)=(getR b (textR b (at_:Int)).2.1 5 0 0).2.1:=by rw[←hq,n3,t3]
    obtain⟨s,s1,s2,s9,s3⟩:=ih q (out++[(⟨(textP b (at_:Int) false).1,(numP b (textP b (at_:Int) false).2.1 (textP b (at_:Int) false).2.2).1⟩:S84)]) (i+1) false (by omega) (by omega) (by rw[List.length_append,List.length_singleton,if_neg (by simp)];omega) (by omega) (f1_snoc h9 (numP_le hb _ _));exact⟨s,s1,s2,s9,impl_idx_round b hb hn n hnn out (by omega) i (at_:Int) h4 (by omega) (by omega) hi _ rfl _ rfl rT.2.2 s (by rw[hq,hz];exact s3)⟩
   |true=>
    have hle:(numP b (textP b (at_:Int) false).2.1 (textP b (at_:Int) false).2.2).2.1≤(b.length:Int)∧(at_:Int)≤(numP b (textP b (at_:Int) false).2.1 (textP b (at_:Int) false).2.2).2.1:=by
     have e1:(numP b (textP b (at_:Int) false).2.1 (textP b (at_:Int) false).2.2).2.1=(textP b (at_:Int) false).2.1:=by
      unfold numP at hz ⊢;split at hz
      ·rename_i c;rw[if_pos c]
      ·rename_i c;rw[if_neg c];split at hz
       ·simp at hz
       ·rename_i c2;rw[if_neg c2]
     rw[e1];cases ht:(textP b (at_:Int) false).2.2 with
     |false=>
      obtain⟨_,t2,t3⟩:=textP_good ht;have q1:=textR_range b hb _ t2;rw[t3];dsimp only;omega
     |true=>
      have e2:(textP b (at_:Int) false).2.1=(at_:Int):=by
       unfold textP at ht ⊢;rw[if_neg (by simp)]at ht ⊢;split at ht
       ·simp at ht
       ·rename_i c2;rw[if_neg c2]
      omega
    obtain⟨q,hq⟩:∃q:Nat,(numP b (textP b (at_:Int) false).2.1 (textP b (at_:Int) false).2.2).2.1=(q:Int):=⟨_,(Int.toNat_of_nonneg rN.2.1).symm⟩;obtain⟨s,s1,s2,s9,s3⟩:=last q (out++[(⟨(textP b (at_:Int) false).1,(numP b (textP b (at_:Int) false).2.1 (textP b (at_:Int) false).2.2).1⟩:S84)]) (i+1) true (by omega) (by rw[List.length_append,List.length_singleton,if_pos rfl];omega) (Or.inl rfl) (f1_snoc h9 (numP_le hb _ _));exact⟨s,s1,s2,s9,impl_idx_round b hb hn n hnn out (by omega) i (at_:Int) h4 (by omega) (by omega) hi _ rfl _ rfl rT.2.2 s (by rw[hq,hz];exact s3)⟩
theorem rd_take2 (b:List Int) (m:Nat) (i:Int) (h0:0≤i) (h1:i<(m:Int)):rd (b.take m) i=rd b i:=by
 obtain⟨j,rfl⟩:=Int.eq_ofNat_of_zero_le h0;rw[rd_nat,rd_nat,List.getD_eq_getElem?_getD,List.getD_eq_getElem?_getD,List.getElem?_take,if_pos (by omega)]
theorem getR_take (b:List Int) (m:Nat) (at_:Int):∀(d:Nat) (n k:Int),0≤k→(getR (b.take m) at_ d n k).2.2=true→getR b at_ d n k=getR (b.take m) at_ d n k:=by
 intro d
 induction d with
 |zero=>intro n k _ _;rfl
 |succ d ih=>
  intro n k hk h;have hl:(b.take m).length=min m b.length:=List.length_take;unfold getR at h ⊢;by_cases hr:0≤at_∧at_+k<((b.take m).length:Int)
  ·have e:=rd_take2 b m (at_+k) (by omega) (by omega);rw[if_pos hr]at h ⊢;rw[if_pos (show 0≤at_∧at_+k<(b.length:Int) by omega)];rw[e]at h ⊢;by_cases h1:k=0∧rd b (at_+k)=128
   ·rw[if_pos h1,if_pos h1]
   ·rw[if_neg h1]at h ⊢;rw[if_neg h1];by_cases h2:rd b (at_+k)<128
    ·rw[if_pos h2,if_pos h2]
    ·rw[if_neg h2]at h ⊢;rw[if_neg h2];exact ih _ _ (by omega) h
  ·rw[if_neg hr]at h;simp at h
theorem getR_take' (b:List Int) (hb:BytesIn b) (m:Nat) (at_:Int):∀(d:Nat) (n k:Int),0≤k→0≤n→(getR b at_ d n k).2.2=true→(getR b at_ d n k).2.1≤(m:Int)→getR (b.take m) at_ d n k=getR b at_ d n k:=by
 intro d
 induction d with
 |zero=>intro n k _ _ _ _;rfl
 |succ d ih=>
  intro n k hk hn h hm;have hl:(b.take m).length=min m b.length:=List.length_take;have hg:=getR_range b hb at_ (d+1) n k hk hn h;have hm0:at_+k+1≤(m:Int):=by omega
  clear hg;unfold getR at h hm ⊢;by_cases hr:0≤at_∧at_+k<(b.length:Int)
  ·have hr':at_+k<(m:Int):=by omega
   have e:=rd_take2 b m (at_+k) (by omega) hr';rw[if_pos hr]at h hm ⊢;rw[if_pos (show 0≤at_∧at_+k<((b.take m).length:Int) by omega),e];by_cases h1:k=0∧rd b (at_+k)=128
   ·rw[if_pos h1,if_pos h1]
   ·rw[if_neg h1]at h hm ⊢;rw[if_neg h1];by_cases h2:rd b (at_+k)<128
    ·rw[if_pos h2,if_pos h2]
    ·have hc:=hb (at_+k);rw[if_neg h2]at h hm ⊢;rw[if_neg h2];exact ih _ _ (by omega) (by omega) h hm
  ·rw[if_neg hr]at h;simp at h
theorem textR_take (b:List Int) (hb:BytesIn b) (m:Nat) (at_:Int) (h:(textR (b.take m) at_).2.2=true):textR b at_=textR (b.take m) at_:=by
 have hl:(b.take m).length=min m b.length:=List.length_take
 have hb':BytesIn (b.take m):=fun i=>by
  by_cases c:0≤i∧i<(m:Int)
  ·rw[rd_take2 b m i c.1 c.2];exact hb i
  ·by_cases c0:0≤i
   ·obtain⟨j,rfl⟩:=Int.eq_ofNat_of_zero_le c0;rw[rd_nat,List.getD_eq_getElem?_getD,List.getElem?_eq_none (by omega)];exact⟨Int.le_refl 0,by decide⟩
   ·have:rd (b.take m) i=rd (b.take m) 0:=by unfold rd;rw[show i.toNat=(0:Int).toNat by omega]
    rw[this];by_cases c1:0<m
    ·rw[rd_take2 b m 0 (Int.le_refl 0) (by omega)];exact hb 0
    ·have:m=0:=by omega
     subst this;simp[rd]
 unfold textR at h ⊢;have hg:=getR_take b m at_ 5 0 0 (Int.le_refl 0);have hr:=getR_range (b.take m) hb' at_ 5 0 0 (Int.le_refl 0) (Int.le_refl 0);by_cases c:(getR (b.take m) at_ 5 0 0).2.2=true
 ·rw[hg c];obtain⟨a1,a2,a3,a4,a5⟩:=hr c;generalize getR (b.take m) at_ 5 0 0=g at c h a1 a2 a3 a4 a5
  rw[if_pos c]at h ⊢;rw[if_pos c];by_cases c2:g.1>((b.take m).length:Int)-g.2.1
  ·rw[if_pos c2]at h;simp at h
  ·rw[if_neg c2,if_neg (show ¬g.1>(b.length:Int)-g.2.1 by omega),List.take_take,Nat.min_eq_left (by omega)]
 ·rw[if_neg c]at h;simp at h
theorem textR_take' (b:List Int) (hb:BytesIn b) (m:Nat) (at_:Int) (h:(textR b at_).2.2=true) (hm:(textR b at_).2.1≤(m:Int)):textR (b.take m) at_=textR b at_:=by
 have hl:(b.take m).length=min m b.length:=List.length_take;unfold textR at h hm ⊢;have hg:=getR_take' b hb m at_ 5 0 0 (Int.le_refl 0) (Int.le_refl 0);have hr:=getR_range b hb at_ 5 0 0 (Int.le_refl 0) (Int.le_refl 0);by_cases c:(getR b at_ 5 0 0).2.2=true
 ·obtain⟨a1,a2,a3,a4,a5⟩:=hr c;rw[if_pos c]at h hm;by_cases c2:(getR b at_ 5 0 0).1>(b.length:Int)-(getR b at_ 5 0 0).2.1
  ·rw[if_pos c2]at h;simp at h
  ·rw[if_neg c2]at hm;dsimp only at hm;rw[hg c (by omega),if_pos c,if_pos c,if_neg c2,if_neg (by omega),List.take_take,Nat.min_eq_left (by omega)]
 ·rw[if_neg c]at h;simp at h
theorem wordR_take (b:List Int) (m:Nat) (i:Int) (h0:0≤i) (h1:i+4≤(m:Int)):wordR (b.take m) i=wordR b i:=by
 unfold wordR;rw[rd_take2 b m i h0 (by omega),rd_take2 b m (i+1) (by omega) (by omega),rd_take2 b m (i+2) (by omega) (by omega),rd_take2 b m (i+3) (by omega) (by omega)]
theorem unframe_take (b:List Int) (hb:BytesIn b) (m:Nat) (hm:m≤b.length) (i:Int) (h:(unframeR (b.take m) i).2.2=true):unframeR b i=unframeR (b.take m) i:=by
 have hl:(b.take m).length=m:=by rw[List.length_take];omega
 unfold unframeR at h ⊢;by_cases c:0≤i∧i≤((b.take m).length:Int)-4
 ·rw[if_pos c]at h ⊢;rw[if_pos (show 0≤i∧i≤(b.length:Int)-4 by omega)];have w:=wordR_take b m i c.1 (by omega);rw[w]at h ⊢;by_cases c2:(textR (b.take m) (i+4)).2.2=true∧sumN (bytesOf (textR (b.take m) (i+4)).1)=wordR b i
  ·rw[textR_take b hb m (i+4) c2.1]
  ·rw[if_neg c2]at h;simp at h
 ·rw[if_neg c]at h;simp at h
theorem unframe_take' (b:List Int) (hb:BytesIn b) (m:Nat) (hm:m≤b.length) (i:Int) (h:(unframeR b i).2.2=true) (hn:(unframeR b i).2.1≤(m:Int)):unframeR (b.take m) i=unframeR b i:=by
 have hl:(b.take m).length=m:=by rw[List.length_take];omega
 unfold unframeR at h hn ⊢;by_cases c:0≤i∧i≤(b.length:Int)-4
 ·rw[if_pos c]at h hn ⊢;by_cases c2:(textR b (i+4)).2.2=true∧sumN (bytesOf (textR b (i+4)).1)=wordR b i
  ·rw[if_pos c2]at hn;dsimp only at hn;have hr:=textR_range b hb (i+4) c2.1;rw[if_pos (show 0≤i∧i≤((b.take m).length:Int)-4 by omega),wordR_take b m i c.1 (by omega),textR_take' b hb m (i+4) c2.1 hn]
  ·rw[if_neg c2]at h;simp at h
 ·rw[if_neg c]at h;simp at h
def IQ (n:Int) (r:List ByteArray × List Int × List Int × Bool) (s:List S84 × List Int × Bool × Int × Bool):Prop:=
 r.2.1.length≤101∧s.1.length≤1048577∧(r.2.2.2=true→s.2.2.1=true∧r.2.1=s.1.map (fun x=>x.f1))∧(r.2.2.2=false→(s.2.2.1=false∧s.1=[])∨(100<n∧(s.2.2.1=false→s.1=[])))∧(∀x ∈ s.1,x.f1≤1000000000)
theorem idx_rel (b:List Int) (hb:BytesIn b) (hn:b.length≤1048576) (n:Int) (hnn:n≤1000000000):∀(d i at_:Nat) (keys:List ByteArray) (places:List Int) (out:List S84),100≤i+d→i≤100→(i:Int)≤n→at_≤b.length→i≤at_→keys.length=i→places.length=i→out.length=i→places=out.map (fun x=>x.f1)→(∀x ∈ out,x.f1≤1000000000) →
 Rel (IQ n) (fun k=>spec_l5Index.l0 k keys places b n (at_:Int) true (i:Int)) (fun k=>impl_indexOfR.l0 k b n out (i:Int) b (at_:Int) false):=by
 intro d
 induction d with
 |zero=>
  intro i at_ keys places out h1 h2 h3 h4 h5 hk hp ho he h9;have e1:=spec_idx_end b hn n keys places (at_:Int) (i:Int) (by omega) (by omega) true (Or.inr (Or.inr (by omega)));by_cases hi:(i:Int)<n
  ·rw[if_neg (fun hh=>by omega)]at e1;obtain⟨s,s1,s2,s9,s3⟩:=impl_idx_comes b hb hn n hnn (b.length-at_) at_ out (i:Int) false (by omega) h4 (by omega) (by omega) h9;exact⟨_,s,⟨by dsimp only;omega,s1,fun h=>by simp at h,(fun _=>Or.inr ⟨by omega,s2⟩),s9⟩,e1,s3⟩
  ·have e2:=impl_idx_end b hn n out (i:Int) (at_:Int) (by omega) (by omega) false (Or.inr hi);unfold idxOut at e2;by_cases c:(b.length:Int)-(at_:Int)=8
   ·rw[if_pos ⟨rfl,by omega,c⟩]at e1;rw[if_neg (by simp;omega)]at e2;exact⟨_,_,⟨by dsimp only;omega,by dsimp only;omega,fun _=>⟨rfl,he⟩,(fun h=>by simp at h),h9⟩,e1,e2⟩
   ·rw[if_neg (fun hh=>c hh.2.2)]at e1;rw[if_pos (Or.inr (by omega))]at e2;exact⟨_,_,⟨by dsimp only;omega,by simp,fun h=>by simp at h,(fun _=>Or.inl ⟨rfl,rfl⟩),(fun x hx=>by simp at hx)⟩,e1,e2⟩
 |succ d ih=>
  intro i at_ keys places out h1 h2 h3 h4 h5 hk hp ho he h9;by_cases hi:(i:Int)<n
  ·by_cases h100:(i:Int)<100
   ·have rt:=textR_next hb (at_:Int);have rg:=getR_next hb (textR b (at_:Int)).2.1;by_cases c1:(textR b (at_:Int)).2.2=true
    ·have hT:textP b (at_:Int) false=((textR b (at_:Int)).1,(textR b (at_:Int)).2.1,false):=by unfold textP;rw[if_neg (by simp),if_pos c1]
     have q1:=textR_range b hb _ c1;by_cases c2:(getR b (textR b (at_:Int)).2.1 5 0 0).2.2=true
     ·have hN:numP b (textR b (at_:Int)).2.1 false=((getR b (textR b (at_:Int)).2.1 5 0 0).1,(getR b (textR b (at_:Int)).2.1 5 0 0).2.1,false):=by unfold numP;rw[if_neg (by simp),if_pos c2]
      have q2:=getR_range b hb _ 5 0 0 (Int.le_refl 0) (Int.le_refl 0) c2;obtain⟨q,hq⟩:∃q:Nat,(getR b (textR b (at_:Int)).2.1 5 0 0).2.1=(q:Int):=⟨_,(Int.toNat_of_nonneg rg.1).symm⟩;obtain⟨r,s,hrs,e1,e2⟩:=ih (i+1) q (keys++[(textR b (at_:Int)).1]) (places++[(getR b (textR b (at_:Int)).2.1 5 0 0).1]) (out++[(⟨(textR b (at_:Int)).1,(getR b (textR b (at_:Int)).2.1 5 0 0).1⟩:S84)]) (by omega) (by omega) (by omega) (by omega) (by omega) (by simp[hk]) (by simp[hp]) (by simp[ho]) (by rw[List.map_append,he];rfl) (f1_snoc h9 q2.2.1);have ei:((i+1:Nat):Int)=(i:Int)+1:=by omega
      rw[ei]at e1 e2;refine⟨r,s,hrs,spec_idx_round b hb hn n keys places (by omega) (by omega) (at_:Int) (i:Int) (by omega) (by omega) (by omega) hi h100 r ?_,impl_idx_round b hb hn n hnn out (by omega) (i:Int) (at_:Int) (by omega) (by omega) (by omega) hi _ hT _ hN (by dsimp only;omega) s ?_⟩
      ·rw[if_pos c1,c2,hq];exact e1
      ·dsimp only;rw[hq];exact e2
     ·have hN:numP b (textR b (at_:Int)).2.1 false=(0,(textR b (at_:Int)).2.1,true):=by unfold numP;rw[if_neg (by simp),if_neg c2]
      have e1:=spec_idx_end b hn n (keys++[(textR b (at_:Int)).1]) (places++[(getR b (textR b (at_:Int)).2.1 5 0 0).1]) _ ((i:Int)+1) rg.1 rg.2.1 false (Or.inl rfl);have e2:=impl_idx_end b hn n (out++[(⟨(textR b (at_:Int)).1,0⟩:S84)]) ((i:Int)+1) (textR b (at_:Int)).2.1 rt.1 rt.2 true (Or.inl rfl);rw[if_neg (by simp)]at e1;unfold idxOut at e2;rw[if_pos (Or.inl rfl)]at e2;have E1:=spec_idx_round b hb hn n keys places (by omega) (by omega) (at_:Int) (i:Int) (by omega) (by omega) (by omega) hi h100 _ (by rw[if_pos c1,eq_false_of_ne_true c2];exact e1);have E2:=impl_idx_round b hb hn n hnn out (by omega) (i:Int) (at_:Int) (by omega) (by omega) (by omega) hi _ hT _ hN (by dsimp only;omega) _ e2;exact⟨_,_,⟨by dsimp only;rw[List.length_append,List.length_singleton];omega,by dsimp only;exact Nat.zero_le _,fun h=>by simp at h,(fun _=>Or.inl ⟨rfl,rfl⟩),(fun x hx=>by simp at hx)⟩,E1,E2⟩
    ·have hT:textP b (at_:Int) false=((⟨#[]⟩:ByteArray),(at_:Int),true):=by unfold textP;rw[if_neg (by simp),if_neg c1]
     have hN:numP b (at_:Int) true=(0,(at_:Int),true):=by unfold numP;rw[if_pos rfl]
     have e1:=spec_idx_end b hn n (keys++[(textR b (at_:Int)).1]) (places++[(getR b (textR b (at_:Int)).2.1 5 0 0).1]) _ ((i:Int)+1) rg.1 rg.2.1 false (Or.inl rfl);have e2:=impl_idx_end b hn n (out++[(⟨⟨#[]⟩,0⟩:S84)]) ((i:Int)+1) (at_:Int) (by omega) (by omega) true (Or.inl rfl);rw[if_neg (by simp)]at e1;unfold idxOut at e2;rw[if_pos (Or.inl rfl)]at e2;have E1:=spec_idx_round b hb hn n keys places (by omega) (by omega) (at_:Int) (i:Int) (by omega) (by omega) (by omega) hi h100 _ (by rw[if_neg c1];exact e1);have E2:=impl_idx_round b hb hn n hnn out (by omega) (i:Int) (at_:Int) (by omega) (by omega) (by omega) hi _ hT _ hN (by dsimp only;omega) _ e2;exact⟨_,_,⟨by dsimp only;rw[List.length_append,List.length_singleton];omega,by dsimp only;exact Nat.zero_le _,fun h=>by simp at h,(fun _=>Or.inl ⟨rfl,rfl⟩),(fun x hx=>by simp at hx)⟩,E1,E2⟩
   ·have e1:=spec_idx_end b hn n keys places (at_:Int) (i:Int) (by omega) (by omega) true (Or.inr (Or.inr h100));rw[if_neg (fun hh=>by omega)]at e1;obtain⟨s,s1,s2,s9,s3⟩:=impl_idx_comes b hb hn n hnn (b.length-at_) at_ out (i:Int) false (by omega) h4 (by omega) (by omega) h9;exact⟨_,s,⟨by dsimp only;omega,s1,fun h=>by simp at h,(fun _=>Or.inr ⟨by omega,s2⟩),s9⟩,e1,s3⟩
  ·have e1:=spec_idx_end b hn n keys places (at_:Int) (i:Int) (by omega) (by omega) true (Or.inr (Or.inl hi));have e2:=impl_idx_end b hn n out (i:Int) (at_:Int) (by omega) (by omega) false (Or.inr hi);unfold idxOut at e2;by_cases c:(b.length:Int)-(at_:Int)=8
   ·rw[if_pos ⟨rfl,by omega,c⟩]at e1;rw[if_neg (by simp;omega)]at e2;exact⟨_,_,⟨by dsimp only;omega,by dsimp only;omega,fun _=>⟨rfl,he⟩,(fun h=>by simp at h),h9⟩,e1,e2⟩
   ·rw[if_neg (fun hh=>c hh.2.2)]at e1;rw[if_pos (Or.inr (by omega))]at e2;exact⟨_,_,⟨by dsimp only;omega,by simp,fun h=>by simp at h,(fun _=>Or.inl ⟨rfl,rfl⟩),(fun x hx=>by simp at hx)⟩,e1,e2⟩
def idxMany (b:List Int):Prop:=4≤b.length∧100<(getR (unframeR b (wordR b ((b.length:Int)-4))).1 0 5 0 0).1
def TQ (b:List Int) (r:List ByteArray × List Int × List Int × Bool) (s:List S84 × List Int × Bool):Prop:=
 r.2.1.length≤101∧s.1.length≤1048577∧(r.2.2.2=true→s.2.2=true∧r.2.1=s.1.map (fun x=>x.f1)∧4≤b.length)∧(r.2.2.2=false→(s.2.2=false∧s.1=[])∨(idxMany b∧(s.2.2=false→s.1=[])))∧(∀x ∈ s.1,x.f1≤1000000000)
theorem unframeR_in (b:List Int) (i:Int):BytesIn (unframeR b i).1:=by
 unfold unframeR;split
 ·split
  ·exact bytesOf_in _
  ·exact BytesIn.nil
 ·exact BytesIn.nil
theorem unframeR_next (b:List Int) (hb:BytesIn b) (i:Int) (h:(unframeR b i).2.2=true):0≤i∧i+5≤(unframeR b i).2.1:=by
 unfold unframeR at h ⊢;by_cases c:0≤i∧i≤(b.length:Int)-4
 ·rw[if_pos c]at h ⊢;by_cases c2:(textR b (i+4)).2.2=true∧sumN (bytesOf (textR b (i+4)).1)=wordR b i
  ·rw[if_pos c2];have hr:=textR_range b hb (i+4) c2.1;exact⟨c.1,by dsimp only;omega⟩
  ·rw[if_neg c2]at h;simp at h
 ·rw[if_neg c]at h;simp at h
theorem BytesIn.take {b:List Int} (h:BytesIn b) (m:Nat):BytesIn (b.take m):=by
 intro i;unfold rd;rw[List.getD_eq_getElem?_getD,List.getElem?_take];have:=h i;unfold rd at this;rw[List.getD_eq_getElem?_getD]at this;split
 ·exact this
 ·exact⟨Int.le_refl 0,by decide⟩
theorem index_rel (b:List Int) (hb:BytesIn b) (hn:b.length≤1048576):Rel (TQ b) (fun k=>spec_l5Index.f k b) (fun k=>impl_indexOf.f k b):=by
 simp only[spec_l5Index.f,impl_indexOf.f,Option.bind_some];have w4:wrap64 ((b.length:Int)-4)=(b.length:Int)-4:=wrap_id (by omega) (by omega);have hF:=specFour_ev b hb (by omega) ((b.length:Int)-4) (by omega);by_cases hl:(b.length:Int)<4
 ·rw[if_neg (show ¬(0≤(b.length:Int)-4∧(b.length:Int)-4≤(b.length:Int)-4) by omega)]at hF;refine⟨([],[],[],false),([],[],false),⟨by simp,by simp,fun h=>by simp at h,(fun _=>Or.inl ⟨rfl,rfl⟩),(fun x hx=>by simp at hx)⟩,?_,?_⟩
  ·simp only[w4];refine Ev.bind hF ?_;simp only[Bool.false_eq_true,if_false];refine Ev.step (fun k=>spec_l5Index.j0.eq_2 ..) ?_;simp only[if_true];exact Ev.now _
  ·simp only[if_pos hl];exact Ev.now _
 ·rw[if_pos (show 0≤(b.length:Int)-4∧(b.length:Int)-4≤(b.length:Int)-4 by omega)]at hF;obtain⟨m,hm⟩:∃m:Nat,m+4=b.length:=⟨b.length-4,by omega⟩;have em:(b.length:Int)-4=(m:Int):=by omega
  have wm:wrap64 (m:Int)=(m:Int):=wrap_id (by omega) (by omega);have hW:=wordAt_ev b hb m (by omega) (by omega)
  have hwr:wordR b (m:Int)≤9223372036854775807:=by
   unfold wordR;have a0:=hb (m:Int);have a1:=hb ((m:Int)+1);have a2:=hb ((m:Int)+2);have a3:=hb ((m:Int)+3);omega
  have hmany:idxMany b↔100<(getR (unframeR b (wordR b (m:Int))).1 0 5 0 0).1:=by unfold idxMany;rw[em];exact⟨fun h=>h.2,fun h=>⟨by omega,h⟩⟩
  simp only[em]at hF;simp only[em,wm];simp only[if_neg (show ¬(b.length:Int)<4 from hl),hW,Option.bind_some];have hx1:=unframe_take b hb m (by omega) (wordR b (m:Int));have hx2:=unframe_take' b hb m (by omega) (wordR b (m:Int));have hx3:=unframeR_next b hb (wordR b (m:Int));have hS:=specUnframe_ev (b.take m) (hb.take m) (by rw[List.length_take];omega) (wordR b (m:Int)) hwr;have hI:=implUnframe_any b hb (by omega) (wordR b (m:Int)) hwr;have hin:=unframeR_in b (wordR b (m:Int));have hul:=unframeR_len b (wordR b (m:Int));generalize wordR b (m:Int)=w at *
  have tm:((m:Int)).toNat=m:=Int.toNat_natCast m;by_cases hc:(unframeR b w).2.2=true∧(unframeR b w).2.1=(m:Int)
  ·obtain⟨h1,h2⟩:=hc;have hw:=hx3 h1;rw[hx2 h1 (by omega)]at hS;generalize unframeR b w=u at hS hI hin hul h1 h2 hmany hw
   have hbody:Rel (TQ b) (fun k=>(spec_GetNum.f k u.1 0).bind fun bt=>spec_l5Index.l0 k [] [] u.1 bt.1 bt.2.1 bt.2.2 0) (fun k=>impl_fkI.f k u.1):=by
    simp only[impl_fkI.f,impl_indexOfR.f];have hG:=spec_getNum_ev u.1 hin (by omega) 0 (by omega);have hM:=num_ev u.1 hin (by omega) 0 (by omega) false;have rg:=getR_next hin 0;by_cases c:(getR u.1 0 5 0 0).2.2=true
    ·have hN:numP u.1 0 false=((getR u.1 0 5 0 0).1,(getR u.1 0 5 0 0).2.1,false):=by unfold numP;rw[if_neg (by simp),if_pos c]
     have q2:=getR_range u.1 hin 0 5 0 0 (Int.le_refl 0) (Int.le_refl 0) c;obtain⟨q,hq⟩:∃q:Nat,(getR u.1 0 5 0 0).2.1=(q:Int):=⟨_,(Int.toNat_of_nonneg rg.1).symm⟩;obtain⟨r,s,⟨i1,i2,i3,i4,i9⟩,e1,e2⟩:=idx_rel u.1 hin (by omega) (getR u.1 0 5 0 0).1 q2.2.1 100 0 q [] [] [] (by omega) (by omega) (by omega) (by omega) (by omega) rfl rfl rfl rfl (fun x hx=>by simp at hx);refine⟨r,(s.1,(if s.2.2.1=true then u.1.drop s.2.2.2.1.toNat else []),s.2.2.1),⟨i1,i2,fun h=>⟨(i3 h).1,(i3 h).2,by omega⟩,(fun h=>?_),i9⟩,Ev.bind hG ?_,?_⟩
     ·rcases i4 h with h|h
      ·exact Or.inl h
      ·exact Or.inr ⟨hmany.2 h.1,h.2⟩
     ·rw[c,hq];exact e1
     ·rw[hN]at hM;refine Ev.bind (Ev.bind hM ?_) (Ev.now _);dsimp only;rw[hq];exact e2
    ·have hN:numP u.1 0 false=(0,0,true):=by unfold numP;rw[if_neg (by simp),if_neg c]
     have e1:=spec_idx_end u.1 (by omega) (getR u.1 0 5 0 0).1 [] [] (getR u.1 0 5 0 0).2.1 0 rg.1 rg.2.1 false (Or.inl rfl);have e2:=impl_idx_end u.1 (by omega) 0 [] 0 0 (Int.le_refl 0) (by omega) true (Or.inl rfl);rw[if_neg (by simp)]at e1;unfold idxOut at e2;rw[if_pos (Or.inl rfl)]at e2;rw[hN]at hM;refine⟨([],[],[],false),([],[],false),⟨by simp,by simp,fun h=>by simp at h,(fun _=>Or.inl ⟨rfl,rfl⟩),(fun x hx=>by simp at hx)⟩,Ev.bind hG ?_,Ev.bind (Ev.bind hM e2) (Ev.now _)⟩;rw[eq_false_of_ne_true c];exact e1
   obtain⟨r,s,hrs,e1,e2⟩:=hbody;refine⟨r,s,hrs,Ev.bind hF ?_,Ev.bind hI ?_⟩
   ·simp only[if_true,decide_eq_false (show ¬w>(m:Int) by omega)];refine Ev.step (fun k=>spec_l5Index.j0.eq_2 ..) ?_;simp only[Bool.false_eq_true,if_false,em,wm,if_pos (show 0≤(m:Int) by omega),if_pos (show (m:Int)≤(b.length:Int) by omega),tm];refine Ev.bind hS ?_;simp only[if_pos h1,h2,bne_self_eq_false];refine Ev.step (fun k=>spec_l5Index.j1.eq_2 ..) ?_;simp only[Bool.false_eq_true,if_false];exact e1
   ·simp only[if_pos h1,h2,bne_self_eq_false];refine Ev.step (fun k=>impl_indexOf.j0.eq_2 ..) ?_;simp only[Bool.false_eq_true,if_false];exact Ev.bind e2 (Ev.now _)
  ·refine⟨([],[],[],false),([],[],false),⟨by simp,by simp,fun h=>by simp at h,(fun _=>Or.inl ⟨rfl,rfl⟩),(fun x hx=>by simp at hx)⟩,Ev.bind hF ?_,Ev.bind hI ?_⟩
   ·simp only[if_true];by_cases hw:w>(m:Int)
    ·simp only[decide_eq_true hw];refine Ev.step (fun k=>spec_l5Index.j0.eq_2 ..) ?_;simp only[if_true];exact Ev.now _
    ·simp only[decide_eq_false hw];refine Ev.step (fun k=>spec_l5Index.j0.eq_2 ..) ?_;simp only[Bool.false_eq_true,if_false,em,wm,if_pos (show 0≤(m:Int) by omega),if_pos (show (m:Int)≤(b.length:Int) by omega),tm];refine Ev.bind hS ?_;by_cases hv:(unframeR (b.take m) w).2.2=true
     ·have hne:((unframeR (b.take m) w).2.1 != (m:Int))=true:=by
       rw[←hx1 hv];rw[←hx1 hv]at hv;have:¬(unframeR b w).2.1=(m:Int):=fun h=>hc ⟨hv,h⟩
       simpa using this
      simp only[if_pos hv,hne];refine Ev.step (fun k=>spec_l5Index.j1.eq_2 ..) ?_;simp only[if_true];exact Ev.now _
     ·simp only[if_neg hv];refine Ev.step (fun k=>spec_l5Index.j1.eq_2 ..) ?_;simp only[if_true];exact Ev.now _
   ·by_cases hv:(unframeR b w).2.2=true
    ·have hne:((unframeR b w).2.1 != (m:Int))=true:=by
      have:¬(unframeR b w).2.1=(m:Int):=fun h=>hc ⟨hv,h⟩
      simpa using this
     simp only[if_pos hv,hne];refine Ev.step (fun k=>impl_indexOf.j0.eq_2 ..) ?_;simp only[if_true];exact Ev.now _
    ·simp only[if_neg hv];refine Ev.step (fun k=>impl_indexOf.j0.eq_2 ..) ?_;simp only[if_true];exact Ev.now _
theorem tab_few (b:List Int) (hb:BytesIn b) (hn:b.length≤1048576) (l:Nat) (h:TabOk l b) (hne:b≠[]):¬idxMany b:=by
 rintro⟨h4,hm⟩
 rcases h.2.2 with h0|⟨_,out,idx,c,c0,c1,hi,e⟩
 ·exact hne h0
 ·have hcc:clampN c=c:=by unfold clampN;rw[if_neg (by omega),if_neg (by omega)]
  have hfl:(fourB (out.length:Int)).length=4:=rfl
  have hol:out.length+(frameB (numB (clampN c)++idx)).length+4=b.length:=by
   rw[e,List.length_append,List.length_append,hfl]
  have hw:wordR b ((b.length:Int)-4)=(out.length:Int):=by
   have e1:b=(out++frameB (numB (clampN c)++idx))++((out.length:Int) / 16777216 % 256)::((out.length:Int) / 65536 % 256)::((out.length:Int) / 256 % 256)::((out.length:Int) % 256)::[]:=e;have e2:(b.length:Int)-4=((out++frameB (numB (clampN c)++idx)).length:Int):=by rw[List.length_append];omega
   rw[e2]
   conv=>lhs;rw[e1]
   rw[word_four2 _ _ _ _ _ _ _ rfl];exact four_back (by omega) (by omega)
  have e3:b=out++(frameB (numB (clampN c)++idx)++fourB (out.length:Int)):=by rw[←List.append_assoc];exact e
  have hbl:(numB (clampN c)++idx).length≤1000000000:=by
   have:=frameB_length (numB (clampN c)++idx);omega
  have hbi:BytesIn (numB (clampN c)++idx):=(numC_in c).append hi;have hu:=unframe_at out (numB (clampN c)++idx) (fourB (out.length:Int)) hbl (hbi.mem);rw[←e3]at hu;rw[hw,hu.1,hcc]at hm;have g:=getR_numB [] idx c c0 (by omega);simp only[List.nil_append,List.length_nil]at g;rw[show ((0:Nat):Int)=0 from rfl]at g;rw[g]at hm;dsimp only at hm;omega
theorem same_ev (a b:List Int) (ha:a.length≤1000000000000) (hb:b.length≤1048576):Ev (fun k=>spec_l5Same.f k a b) (decide (a=b)):=by
 simp only[spec_l5Same.f];by_cases hl:a.length=b.length
 ·simp only[if_pos (show (a.length:Int)=(b.length:Int) by omega)]
  have key:∀(d i:Nat),i+d=a.length→a.take i=b.take i→Ev (fun k=>spec_l5Same.l0 k a b (i:Int)) (decide (a=b)):=by
   intro d
   induction d with
   |zero=>
    intro i hi ht;refine Ev.step (fun k=>spec_l5Same.l0.eq_2 ..) ?_;simp only[if_neg (show ¬(i:Int)<(a.length:Int) by omega)]
    have e:a=b:=by
     rw[List.take_of_length_le (by omega),List.take_of_length_le (by omega)]at ht;exact ht
    rw[decide_eq_true e];exact Ev.now _
   |succ d ih=>
    intro i hi ht;refine Ev.step (fun k=>spec_l5Same.l0.eq_2 ..) ?_;have hla:i<a.length:=by omega
    have hlb:i<b.length:=by omega
    simp only[if_pos (show (i:Int)<(a.length:Int) by omega),if_pos (show 0≤(i:Int) by omega),if_pos (show (i:Int)<(b.length:Int) by omega),wrap_id (i:=(i:Int)+1) (by omega) (by omega)];have ra:rd a (i:Int)=a[i]:=by rw[rd_nat,List.getD_eq_getElem?_getD,List.getElem?_eq_getElem hla];rfl
    have rb:rd b (i:Int)=b[i]:=by rw[rd_nat,List.getD_eq_getElem?_getD,List.getElem?_eq_getElem hlb];rfl
    by_cases c:rd a (i:Int)=rd b (i:Int)
    ·simp only[if_pos c];refine ih (i+1) (by omega) ?_;rw[List.take_succ_eq_append_getElem hla,List.take_succ_eq_append_getElem hlb,ht,←ra,←rb,c]
    ·simp only[if_neg c];have e:¬a=b:=fun h=>c (by rw[h])
     rw[decide_eq_false e];exact Ev.now _
  exact key a.length 0 (by omega) (by simp)
 ·simp only[if_neg (show ¬(a.length:Int)=(b.length:Int) by omega)];have e:¬a=b:=fun h=>hl (by rw[h])
  rw[decide_eq_false e];exact Ev.now _
theorem str_same {a b:List Int} (ha:BytesIn a) (hb:BytesIn b):((strOfNums a).toList != (strOfNums b).toList) = !(decide (a=b)):=by
 by_cases e:a=b
 ·subst e;simp
 ·have:¬(strOfNums a).toList=(strOfNums b).toList:=by
   intro h
   have h2:strOfNums a=strOfNums b:=by
    rw[ByteArray.toList_eq,ByteArray.toList_eq]at h;exact ByteArray.ext (Array.toList_inj.1 h)
   exact e (by rw[←bytes_str a (fun x hx=>ha.mem x hx),←bytes_str b (fun x hx=>hb.mem x hx),h2])
  rw[decide_eq_false e];simpa using this
theorem tab_end (out:List S87) (ho:out.length≤1099511627776) (hs:SizesIn out) :
 ∃t,TabOk out.length t∧Ev (fun k=>spec_PutTable.f k out) t∧Ev (fun k=>impl_PutTable.f k out) t:=by
 obtain⟨t,h1,h2,h3⟩:=putTable_both out ho hs;exact⟨t,h1,h2,h3⟩
theorem spec_bad (b:List Int) (places:List Int) (out:List S87) (j:Int):Ev (fun k=>spec_TablePairs.l0 k b places false out j) ([],false):=by
 refine Ev.step (fun k=>spec_TablePairs.l0.eq_2 ..) ?_;simp only[ite_self];refine Ev.step (fun k=>spec_TablePairs.j1.eq_2 ..) ?_;simp only[Bool.false_eq_true,if_false];refine Ev.step (fun k=>spec_TablePairs.j2.eq_2 ..) ?_;simp only[if_true];exact Ev.now _
theorem spec_fin (b:List Int) (hn:b.length≤1048576) (places:List Int) (out:List S87) (j:Int) (hj:¬j<(places.length:Int)) (t:List Int) (ht:t.length≤1000000000000) (e:Ev (fun k=>spec_PutTable.f k out) t):Ev (fun k=>spec_TablePairs.l0 k b places true out j) (if t=b then (out,true) else ([],false)):=by
 refine Ev.step (fun k=>spec_TablePairs.l0.eq_2 ..) ?_;simp only[if_neg hj];refine Ev.step (fun k=>spec_TablePairs.j1.eq_2 ..) ?_;simp only[Bool.false_eq_true,if_false,if_true];refine Ev.bind e (Ev.bind (same_ev t b ht hn) ?_);refine Ev.step (fun k=>spec_TablePairs.j2.eq_2 ..) ?_;by_cases c:t=b
 ·simp only[decide_eq_true c,Bool.not_true,Bool.false_eq_true,if_false,if_pos c];exact Ev.now _
 ·simp only[decide_eq_false c,Bool.not_false,if_true,if_neg c];exact Ev.now _
theorem impl_fin (b:List Int) (hb:BytesIn b) (h4:b≠[]) (L:List S84) (out:List S87) (j n:Int) (hj:¬j<n) (t:List Int) (ht:BytesIn t) (e:Ev (fun k=>impl_PutTable.f k out) t) (x6:Bool):Ev (fun k=>impl_TablePairs.l0 k b x6 out L n j) (if x6=true∧t=b then (out,true) else ([],false)):=by
 refine Ev.step (fun k=>impl_TablePairs.l0.eq_2 ..) ?_;simp only[if_neg hj];refine Ev.bind e ?_;cases x6 with
 |false=>
  simp only[Bool.false_eq_true,if_false,false_and];refine Ev.step (fun k=>impl_TablePairs.j2.eq_2 ..) ?_;simp only[if_true];exact Ev.now _
 |true=>
  simp only[if_true,true_and,str_same ht hb];by_cases z:(t.length:Int)=0
  ·have hz:t=[]:=List.eq_nil_of_length_eq_zero (by omega);have c:¬t=b:=fun h=>h4 (by rw[←h,hz])
   simp only[if_pos z,if_neg c];refine Ev.step (fun k=>impl_TablePairs.j2.eq_2 ..) ?_;simp only[if_true];exact Ev.now _
  ·simp only[if_neg z];refine Ev.step (fun k=>impl_TablePairs.j2.eq_2 ..) ?_;by_cases c:t=b
   ·simp only[decide_eq_true c,Bool.not_true,Bool.false_eq_true,if_false,if_pos c];exact Ev.now _
   ·simp only[decide_eq_false c,Bool.not_false,if_true,if_neg c];exact Ev.now _
theorem spec_long (b:List Int) (hb:BytesIn b) (hn:b.length≤1048576) (h4:b≠[]) (places:List Int) (hp:places.length≤101) (h9:∀x ∈ places,x≤1000000000):∀(d j:Nat) (out:List S87),j+d=places.length→200<out.length→out.length≤1048776+j*1048576→SizesIn out→Ev (fun k=>spec_TablePairs.l0 k b places true out (j:Int)) ([],false):=by
 intro d
 induction d with
 |zero=>
  intro j out h1 h2 h3 h5;obtain⟨t,t1,t2,t3⟩:=tab_end out (by omega) h5;have e:=spec_fin b hn places out (j:Int) (by omega) t t1.2.1 t2;have ht:t=[]:=by rcases t1.2.2 with h|h;exact h;omega
  rw[if_neg (fun h=>h4 (by rw[←h,ht]))]at e;exact e
 |succ d ih=>
  intro j out h1 h2 h3 h5;have hj:j<places.length:=by omega
  have hr:rd places (j:Int)≤1000000000:=by
   rw[rd_nat,List.getD_eq_getElem?_getD,List.getElem?_eq_getElem hj];exact h9 _ (List.getElem_mem hj)
  obtain⟨r,s,⟨q1,q2,q3⟩,e1,e2⟩:=pairsAt_rel b hb hn (rd places (j:Int)) (by omega);refine Ev.step (fun k=>spec_TablePairs.l0.eq_2 ..) ?_;simp only[if_pos (show (j:Int)<(places.length:Int) by omega)];refine Ev.step (fun k=>spec_TablePairs.j1.eq_2 ..) ?_;simp only[if_true,if_pos (show 0≤(j:Int) by omega),if_pos (show (j:Int)<(places.length:Int) by omega)];refine Ev.bind e1 ?_;simp only[if_pos (show out.length+r.1.length<3518437208883 by omega),wrap_id (i:=(j:Int)+1) (by omega) (by omega)];cases hr2:r.2 with
  |false=>exact spec_bad b places _ _
  |true=>
   have hs:=(q3 hr2).2;exact ih (j+1) (out++r.1) (by omega) (by rw[List.length_append];omega) (by rw[List.length_append];omega) (fun x hx=>(List.mem_append.1 hx).elim (h5 x) (hs x))
theorem rd_f1 (L:List S84) (j:Nat) (hj:j<L.length):(rd_T84 L (j:Int)) ∈ L:=by
 simp only[rd_T84,Int.toNat_natCast,List.getD_eq_getElem?_getD,List.getElem?_eq_getElem hj,Option.getD_some];exact List.getElem_mem hj
theorem rd_map_f1 (L:List S84) (j:Nat) (hj:j<L.length):rd (L.map (fun x=>x.f1)) (j:Int)=(rd_T84 L (j:Int)).f1:=by
 rw[rd_nat];simp only[rd_T84,Int.toNat_natCast,List.getD_eq_getElem?_getD,List.getElem?_map,List.getElem?_eq_getElem hj,Option.map_some,Option.getD_some]
theorem impl_many (b:List Int) (hb:BytesIn b) (hn:b.length≤1048576) (h4:b≠[]) (hm:idxMany b) (L:List S84) (hL:L.length≤1048577) (h9:∀x ∈ L,x.f1≤1000000000):∀(d j:Nat) (out:List S87),j+d=L.length→out.length≤1048776→SizesIn out→Ev (fun k=>impl_TablePairs.l0 k b true out L (L.length:Int) (j:Int)) ([],false):=by
 intro d
 induction d with
 |zero=>
  intro j out h1 h2 h3;obtain⟨t,t1,t2,t3⟩:=tab_end out (by omega) h3;have e:=impl_fin b hb h4 L out (j:Int) (L.length:Int) (by omega) t t1.1 t3 true;rw[if_neg (fun h:true=true∧t=b=>tab_few b hb hn out.length (h.2▸t1) h4 hm)]at e;exact e
 |succ d ih=>
  intro j out h1 h2 h3;have hj:j<L.length:=by omega
  have hr:=h9 _ (rd_f1 L j hj);obtain⟨r,s,⟨q1,q2,q3⟩,e1,e2⟩:=pairsAt_rel b hb hn ((rd_T84 L (j:Int)).f1) (by omega);refine Ev.step (fun k=>impl_TablePairs.l0.eq_2 ..) ?_;simp only[if_pos (show (j:Int)<(L.length:Int) by omega),if_pos (show 0≤(j:Int) by omega)];refine Ev.bind e2 ?_;simp only[if_true];by_cases hs:s.2=true
  ·rw[hs]at q1;obtain⟨q4,q5⟩:=q3 q1;simp only[if_pos hs];refine Ev.step (fun k=>impl_TablePairs.j1.eq_2 ..) ?_;by_cases hc:(out.length:Int)>200
   ·simp only[decide_eq_true hc,if_true];exact Ev.now _
   ·rw[q4]at q5 q2;simp only[decide_eq_false hc,Bool.false_eq_true,if_false,if_pos (show out.length+s.1.length<3518437208883 by omega),wrap_id (i:=(j:Int)+1) (by omega) (by omega)];exact ih (j+1) (out++s.1) (by omega) (by rw[List.length_append];omega) (fun x hx=>(List.mem_append.1 hx).elim (h3 x) (q5 x))
  ·simp only[if_neg hs];refine Ev.step (fun k=>impl_TablePairs.j1.eq_2 ..) ?_;simp only[if_true];exact Ev.now _
theorem loop_rel (b:List Int) (hb:BytesIn b) (hn:b.length≤1048576) (h4:b≠[]) (L:List S84) (hL:L.length≤101) (h9:∀x ∈ L,x.f1≤1000000000):∀(d j:Nat) (out:List S87),j+d=L.length→out.length≤1048776→SizesIn out →
 Both (fun r=>r.1.length≤1048576) (fun k=>spec_TablePairs.l0 k b (L.map (fun x=>x.f1)) true out (j:Int)) (fun k=>impl_TablePairs.l0 k b true out L (L.length:Int) (j:Int)):=by
 have hm:(L.map (fun x=>x.f1)).length=L.length:=List.length_map _
 have hm9:∀x ∈ L.map (fun x=>x.f1),x≤1000000000:=by
  intro x hx;obtain⟨y,hy,rfl⟩:=List.mem_map.1 hx;exact h9 y hy
 intro d
 induction d with
 |zero=>
  intro j out h1 h2 h3;obtain⟨t,t1,t2,t3⟩:=tab_end out (by omega) h3;have e1:=spec_fin b hn (L.map (fun x=>x.f1)) out (j:Int) (by omega) t t1.2.1 t2;have e2:=impl_fin b hb h4 L out (j:Int) (L.length:Int) (by omega) t t1.1 t3 true;by_cases c:t=b
  ·rw[if_pos c]at e1;rw[if_pos ⟨rfl,c⟩]at e2;refine⟨_,?_,e1,e2⟩
   rcases t1.2.2 with h|h
   ·exact absurd (c▸h) h4
   ·dsimp only;omega
  ·rw[if_neg c]at e1;rw[if_neg (fun h=>c h.2)]at e2;exact⟨_,by simp,e1,e2⟩
 |succ d ih=>
  intro j out h1 h2 h3;have hj:j<L.length:=by omega
  have hr:=h9 _ (rd_f1 L j hj);have hrd:=rd_map_f1 L j hj;obtain⟨r,s,⟨q1,q2,q3⟩,e1,e2⟩:=pairsAt_rel b hb hn ((rd_T84 L (j:Int)).f1) (by omega);have wj:wrap64 ((j:Int)+1)=((j+1:Nat):Int):=(wrap_id (by omega) (by omega)).trans (by omega)
  have hS:∀x,Ev (fun k=>spec_TablePairs.l0 k b (L.map (fun x=>x.f1)) r.2 (out++r.1) ((j+1:Nat):Int)) x→Ev (fun k=>spec_TablePairs.l0 k b (L.map (fun x=>x.f1)) true out (j:Int)) x:=by
   intro x hx;refine Ev.step (fun k=>spec_TablePairs.l0.eq_2 ..) ?_;simp only[hm,if_pos (show (j:Int)<(L.length:Int) by omega)];refine Ev.step (fun k=>spec_TablePairs.j1.eq_2 ..) ?_;simp only[if_true,hm,if_pos (show 0≤(j:Int) by omega),if_pos (show (j:Int)<(L.length:Int) by omega),hrd];refine Ev.bind e1 ?_;simp only[if_pos (show out.length+r.1.length<3518437208883 by omega),wj];exact hx
  by_cases hs:s.2=true
  ·have hr2:r.2=true:=by rw[q1];exact hs
   obtain⟨q4,q5⟩:=q3 hr2;rw[hr2]at hS;by_cases hc:(out.length:Int)>200
   ·refine⟨([],false),by simp,hS _ (spec_long b hb hn h4 _ (by omega) hm9 d (j+1) (out++r.1) (by omega) (by rw[List.length_append];omega) (by rw[List.length_append];omega) (fun x hx=>(List.mem_append.1 hx).elim (h3 x) (q5 x))),?_⟩;refine Ev.step (fun k=>impl_TablePairs.l0.eq_2 ..) ?_;simp only[if_pos (show (j:Int)<(L.length:Int) by omega),if_pos (show 0≤(j:Int) by omega)];refine Ev.bind e2 ?_;simp only[if_true,if_pos hs];refine Ev.step (fun k=>impl_TablePairs.j1.eq_2 ..) ?_;simp only[decide_eq_true hc,if_true];exact Ev.now _
   ·obtain⟨x,hx,x1,x2⟩:=ih (j+1) (out++r.1) (by omega) (by rw[List.length_append];omega) (fun x hx=>(List.mem_append.1 hx).elim (h3 x) (q5 x));refine⟨x,hx,hS x x1,?_⟩;refine Ev.step (fun k=>impl_TablePairs.l0.eq_2 ..) ?_;simp only[if_pos (show (j:Int)<(L.length:Int) by omega),if_pos (show 0≤(j:Int) by omega)];refine Ev.bind e2 ?_;simp only[if_true,if_pos hs];refine Ev.step (fun k=>impl_TablePairs.j1.eq_2 ..) ?_;rw[q4]at q2 x2;simp only[decide_eq_false hc,Bool.false_eq_true,if_false,if_pos (show out.length+s.1.length<3518437208883 by omega),wj];exact x2
  ·have hr2:r.2=false:=by rw[q1];exact eq_false_of_ne_true hs
   rw[hr2]at hS;refine⟨([],false),by simp,hS _ (spec_bad b _ _ _),?_⟩;refine Ev.step (fun k=>impl_TablePairs.l0.eq_2 ..) ?_;simp only[if_pos (show (j:Int)<(L.length:Int) by omega),if_pos (show 0≤(j:Int) by omega)];refine Ev.bind e2 ?_;simp only[if_true,if_neg hs];refine Ev.step (fun k=>impl_TablePairs.j1.eq_2 ..) ?_;simp only[if_true];exact Ev.now _
theorem tablePairs_both (b:List Int) (hb:BytesIn b) (hn:b.length≤1048576):Both (fun r=>r.1.length≤1048576) (fun k=>spec_TablePairs.f k b) (fun k=>impl_TablePairs.f k b):=by
 simp only[spec_TablePairs.f,impl_TablePairs.f];obtain⟨r,s,⟨q1,q2,q3,q4,q9⟩,e1,e2⟩:=index_rel b hb hn
 have none_:s.2.2=false→s.1=[]→Ev (fun k=>impl_TablePairs.l0 k b s.2.2 ([]:List S87) s.1 (s.1.length:Int) 0) ([],false):=by
  intro h1 h2;rw[h1,h2];obtain⟨t,t1,t2,t3⟩:=tab_end [] (by simp) (fun x hx=>by simp at hx);by_cases h4:b=[]
  ·subst h4;refine Ev.step (fun k=>impl_TablePairs.l0.eq_2 ..) ?_;simp only[List.length_nil,Int.ofNat_zero,Int.lt_irrefl,if_false];refine Ev.bind t3 ?_;simp only[Bool.false_eq_true,if_false];refine Ev.step (fun k=>impl_TablePairs.j2.eq_2 ..) ?_;simp only[if_true];exact Ev.now _
  ·have e:=impl_fin b hb h4 [] [] 0 ((([]:List S84).length:Nat):Int) (by simp) t t1.1 t3 false;rw[if_neg (fun h=>by simp at h)]at e;exact e
 cases hr:r.2.2.2 with
 |true=>
  obtain⟨a1,a2,a3⟩:=q3 hr;have h4:b≠[]:=fun h=>by rw[h]at a3;simp at a3
  have hl:s.1.length≤101:=by rw[a2,List.length_map]at q1;exact q1
  obtain⟨x,hx,x1,x2⟩:=loop_rel b hb hn h4 s.1 hl q9 s.1.length 0 [] (by omega) (by simp) (fun x hx=>by simp at hx);refine⟨x,hx,Ev.bind e1 ?_,Ev.bind e2 ?_⟩
  ·rw[hr,a2];exact x1
  ·rw[a1];exact x2
 |false=>
  refine⟨([],false),by simp,Ev.bind e1 ?_,Ev.bind e2 ?_⟩
  ·rw[hr];exact spec_bad b _ _ _
  ·rcases q4 hr with ⟨h1,h2⟩|⟨hm,hz⟩
   ·exact none_ h1 h2
   ·have h4:b≠[]:=fun h=>by have:=hm.1;rw[h]at this;simp at this
    cases h2:s.2.2 with
    |true=>exact impl_many b hb hn h4 hm s.1 q2 q9 s.1.length 0 [] (by omega) (by simp) (fun x hx=>by simp at hx)
    |false=>
     have e:=none_ h2 (hz h2);rw[h2]at e;exact e
theorem FnExactTablePairs:laws_FnExactTablePairs.Pure:=by
 intro xs hx;by_cases hbig:(xs.length:Int)>1048576
 ·exact⟨0,by simp only[laws_FnExactTablePairs.f];rw[if_pos hbig]⟩
 have hb:=bytesIn_of hx.2;obtain⟨r,hr,h2,h3⟩:=tablePairs_both xs hb (by omega);obtain⟨K1,h1⟩:=toByteS_ev xs (by omega);obtain⟨K2,h2⟩:=h2;obtain⟨K3,h3⟩:=h3;obtain⟨K4,h4⟩:=eqPairS_ev r.1 (by omega);obtain⟨K5,h5⟩:=eqByteS_ev xs (by omega);obtain⟨K6,h6⟩:=markByteS_ev xs 1 (by omega) (by omega);obtain⟨K7,h7⟩:=markPairS_ev r.1 1 (by omega) (by omega);obtain⟨K8,h8⟩:=heldPairS_ev 1 r.1.length (by omega) (by omega);dsimp only at h1 h2 h3 h4 h5 h6 h7 h8;refine⟨K1+K2+K3+K4+K5+K6+K7+K8+3,?_⟩;simp only[laws_FnExactTablePairs.f];rw[if_neg hbig,h1 _ (by omega),Option.bind_some,h2 _ (by omega),Option.bind_some,Option.bind_some,h3 _ (by omega),Option.bind_some,h4 _ (by omega),Option.bind_some,if_pos rfl,bne_self_eq_false];simp only[laws_FnExactTablePairs.j0,laws_FnExactTablePairs.j1,laws_FnExactTablePairs.j2,bne_self_eq_false,Bool.false_eq_true,if_false];rw[h1 _ (by omega),Option.bind_some,h5 _ (by omega),Option.bind_some,if_pos rfl,h6 _ (by omega),Option.bind_some,if_neg (by simp only[];omega),h4 _ (by omega),Option.bind_some,if_pos rfl,h7 _ (by omega),Option.bind_some,h8 _ (by omega),Option.bind_some,if_neg (by omega),if_pos rfl,h1 _ (by omega),Option.bind_some,h3 _ (by omega),Option.bind_some,h4 _ (by omega),Option.bind_some,if_pos rfl,if_neg (by simp),h8 _ (by omega),Option.bind_some,if_neg (by omega),if_pos rfl]
end Go.Proofs.Ytecjamgajlpfdaa.MPureFnExactTablePairs
