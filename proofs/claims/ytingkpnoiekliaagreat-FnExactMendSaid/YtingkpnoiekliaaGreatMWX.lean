/- What the law FnExactMend calls, by contract: marks, copies and comparisons of disks and of records. -/
import Derived.Test.YtingkpnoiekliaaGreatG22
import Derived.Test.YtingkpnoiekliaaGreatMZx2
import Derived.Test.YtingkpnoiekliaaGreatMZx3
import Derived.Test.YtingkpnoiekliaaGreatMZx4
import Derived.Test.YtingkpnoiekliaaGreatMZx5
namespace Go.Proofs.YtingkpnoiekliaaGreat.MZ
open Go.RowKit Go.Proofs.YtingkpnoiekliaaGreatW.PrintWords Go.Proofs.YtingkpnoiekliaaGreatW.PrintLast Go.Proofs.YtingkpnoiekliaaGreatW.PrintMore Go.Proofs.YtingkpnoiekliaaGreat.MWords
set_option linter.unusedVariables false
set_option linter.unusedSimpArgs false
structure NK where
 f0:List jh
 f1:List hU
 f2:List hU
 f3:Int
def toEntry (x:hU):aa:=(⟨x.f0,x.f1⟩:aa)
theorem aak (l:List hU) (h:l.length≤1048576):Ev (fun k=>iY.f k l) (l.map toEntry):=by
 have hf:=VZ (fun k out i=>iY.U k l out i) l.length (fun i=>toEntry (l.getD i z105)) kL (fun i out r hi hl h=>?_) (fun out hl=>?_)
 ·rw[Lf]at hf;refine Ev.congr (fun k=>?_) hf;simp only[iY.f];rw[if_pos (by omega),if_pos (by omega)];rfl
 ·refine Ev.step (fun k=>?_) h;simp only[iY.U,HE.f,Option.bind_some,ld,Int.toNat_natCast];rw[if_pos (by omega),if_pos (by omega),if_pos (by omega),fM (n:=l.length) hi (by omega)];rfl
 ·refine Ev.ends (fun k=>?_);simp only[iY.U];rw[if_neg (by omega)]
theorem Z6 {α:Type} (l:List α) (z:α) (B:α→Prop) (F:Nat→Int→Int→Option Int) (g:Nat→Int→Nat→Option Int) (hl:l.length≤9223372036854775806)
 (hF:∀(k:Nat) (a:Int) (i:Nat),i<l.length→0≤a→a≤1048576→F (k+1) a (i:Int)=(g i a k).bind fun t=>if t<0 then some (-1) else F k t ((i+1:Nat):Int))
 (hg:∀(i:Nat) (a:Int),i<l.length→0≤a→a≤1048576→Comes (fun t=>t≤a∧(0≤t→B (l.getD i z))) (g i a))
 (he:∀(k:Nat) (a:Int),F (k+1) a (l.length:Int)=some a) (a:Int) (ha:0≤a) (hb:a≤1048576):Comes (fun t=>t≤a∧(0≤t→∀x ∈ l,B x)) (fun k=>F k a 0):=by
 have key:∀(d i:Nat) (a:Int),i+d=l.length→0≤a→a≤1048576→Comes (fun t=>t≤a∧(0≤t→∀j,i≤j→j<l.length→B (l.getD j z))) (fun k=>F k a (i:Int)):=by
  intro d
  induction d with
  |zero=>
   intro i a hi ha hb;have:i=l.length:=by omega
   subst this;refine Comes.step (fun k=>he k a) (Comes.ret a ⟨Int.le_refl a,fun _ j h1 h2=>by omega⟩)
  |succ d ih=>
   intro i a hi ha hb;refine Comes.step (fun k=>hF k a i (by omega) ha hb) (Comes.bind (hg i a (by omega) ha hb) (fun t ht=>Comes.ite (fun _=>Comes.ret (-1) ⟨by omega,fun h=>by omega⟩) (fun hn=>?_)));refine(ih (i+1) t (by omega) (by omega) (by omega)).mono (fun r hr=>⟨by omega,fun h0 j h1 h2=>?_⟩);by_cases hj:j=i
   ·subst hj;exact ht.2 (by omega)
   ·exact hr.2 h0 j (by omega) h2
 refine(key l.length 0 a (by omega) ha hb).mono (fun r hr=>⟨hr.1,fun h0 x hx=>?_⟩);obtain⟨j,hj,rfl⟩:=List.mem_iff_getElem.1 hx;have:=hr.2 h0 j (by omega) hj
 rwa [List.getD_eq_getElem?_getD,List.getElem?_eq_getElem hj]at this
theorem anz (x:hU) (hx:x.f0.size≤maxLen) (a:Int) (ha:0≤a) (hb:a≤1048576):∃t,xc.f x.f0 x.f1 a=some t∧t≤a∧(0≤t→(x.f0.size:Int)≤a-t):=by
 unfold maxLen at hx;simp only[xc.f,Option.bind_some,wrap64]
 (repeat' split)<;>first|exact⟨_,rfl,by omega,by omega⟩|(simp only[Option.bind_some];(repeat' split)<;>exact⟨_,rfl,by omega,by omega⟩)
theorem Z5 (l:List hU) (hx:l.length≤maxLen∧∀x ∈ l,(x.f0.size≤maxLen)) (a:Int) (ha:0≤a) (hb:a≤1048576):Comes (fun t=>t≤a∧(0≤t→(l.length:Int)≤a-t)) (fun k=>iO.f k l a):=by
 have hl:=hx.1;unfold maxLen at hl;have hw:wrap64 (a-(l.length:Int))=a-(l.length:Int):=dp (by omega) (by omega);simp only[iO.f,hw];refine Comes.ite (fun _=>Comes.ret (-1) ⟨by omega,fun h=>by omega⟩) (fun hn=>?_);refine(Z6 l z105 (fun _=>True) (fun k a i=>iO.U k l a i) (fun i a _=>xc.f (l.getD i z105).f0 (l.getD i z105).f1 a) (by omega) (fun k a i hi _ _=>?_) (fun i a hi ha hb=>?_) (fun k a=>?_) _ (by omega) (by omega)).mono (fun t ht=>⟨by omega,fun h=>by omega⟩)
 ·simp only[iO.U,ld,Int.toNat_natCast];rw[if_pos (by omega),if_pos (by omega),fM (n:=l.length) hi (by omega)]
 ·obtain⟨t,h1,h2,h3⟩:=anz (l.getD i z105) (hx.2 _ (r9 hi)) a ha hb;exact Comes.some_ _ t h1 ⟨h2,fun _=>trivial⟩
 ·simp only[iO.U];rw[if_neg (by omega)]
theorem anP (xs:List Int) (hn:xs.length≤9223372036854775806):∀(d:Nat) (out:List Int) (i:Nat),i+d=xs.length→out.length=xs.length→out.take i=xs.take i →
 Ev (fun k=>k8.U k xs out (i:Int)) xs:=by
 intro d
 induction d with
 |zero=>
  intro out i hi hl ht;have e:out=xs:=by rw[C0 ht (by omega),List.take_of_length_le (by omega)]
  refine Ev.step (f:=fun _=>some xs) (fun k=>?_) (Ev.now xs);simp only[k8.U];rw[if_neg (by omega),e]
 |succ d ih=>
  intro out i hi hl ht;refine Ev.step (f:=fun k=>k8.U k xs (out.set i (xs.getD i 0)) ((i+1:Nat):Int)) (fun k=>?_) (ih _ _ (by omega) (by simp[hl]) ?_)
  ·simp only[k8.U];rw[if_pos (by omega),if_pos (by omega),if_pos (by omega),fM (n:=xs.length) (by omega) (by omega),R7,Int.toNat_natCast]
  ·rw[C1 _ _ _ (by omega),anM _ _ 0 (by omega),ht]
theorem anO (xs:List Int) (hn:xs.length≤281474976710656):Ev (fun k=>k8.f k xs) xs:=by
 have h:=anP xs (by omega) xs.length (List.replicate xs.length 0) 0 (by omega) (by simp) (by simp);refine Ev.congr (fun k=>?_) h;simp only[k8.f];rw[if_pos (by omega),if_pos (by omega)];rfl
theorem agJ (x:aa):zv.f x.f0 x.f1 x.f0 x.f1=some true:=by
 simp[zv.f]
theorem VX (l:List aa) (h:l.length≤9223372036854775806):Ev (fun k=>fp.f k l l) true:=by
 refine Ev.congr (fun k=>?_) (CK (fun i k=>fp.U k l l (i:Int)) l.length true (fun i hi h=>?_) ?_)
 ·simp only[fp.f];rw[if_pos trivial];rfl
 ·refine Ev.step (fun k=>?_) h;simp only[fp.U,agJ,Option.bind_some];rw[if_pos (by omega),if_pos (by omega),if_pos (by omega),fM (n:=l.length) hi (by omega)];rfl
 ·refine Ev.ends (fun k=>?_);simp only[fp.U];rw[if_neg (by omega)]
theorem agH (xs:List Int) (hn:xs.length≤9223372036854775806):∀(d i:Nat),i+d=xs.length→Ev (fun k=>iM.U k xs xs (i:Int)) true:=by
 intro d
 induction d with
 |zero=>
  intro i hi;refine Ev.step (f:=fun _=>some true) (fun k=>?_) (Ev.now true);simp only[iM.U];rw[if_neg (by omega)]
 |succ d ih=>
  intro i hi;refine Ev.step (f:=fun k=>iM.U k xs xs ((i+1:Nat):Int)) (fun k=>?_) (ih _ (by omega));simp only[iM.U];rw[if_pos (by omega),if_pos (by omega),if_pos (by omega),if_pos trivial,fM (n:=xs.length) (by omega) (by omega)]
theorem VW (xs:List Int) (hn:xs.length≤9223372036854775806):Ev (fun k=>iM.f k xs xs) true:=by
 refine Ev.congr (fun k=>?_) (agH xs hn xs.length 0 (by omega));simp only[iM.f];rw[if_pos trivial];rfl
theorem agK (l:List al) (h:l.length≤1048576) (hd:∀x ∈ l,x.f1.length≤4194304):Ev (fun k=>gI.f k l l) true:=by
 refine Ev.congr (fun k=>?_) (CK (fun i k=>gI.U k l l (i:Int)) l.length true (fun i hi h=>?_) ?_)
 ·simp only[gI.f];rw[if_pos trivial];rfl
 ·have hm:l.getD i gV ∈ l:=r9 hi;obtain⟨K,hK⟩:=VW (l.getD i gV).f1 (by have:=hd _ hm;omega);refine Ev.round ⟨K,fun k hk=>?_⟩ h;have t:=hK k hk;dsimp only at t;simp only[gI.U,Cw.f,ai,Int.toNat_natCast,t,Option.bind_some,if_true];rw[if_pos (by omega),if_pos (by omega),if_pos (by omega),fM (n:=l.length) hi (by omega)]
 ·refine Ev.ends (fun k=>?_);simp only[gI.U];rw[if_neg (by omega)]
theorem agI (a:List al) (b c:List aa) (n:Int) (h0:a.length≤1048576) (hd:∀x ∈ a,x.f1.length≤4194304) (h1:b.length≤1048576) (h2:c.length≤1048576):Ev (fun k=>HC.f k a b c n a b c n) true:=by
 obtain⟨K0,e0⟩:=agK a h0 hd;obtain⟨K1,e1⟩:=VX b (by omega);obtain⟨K2,e2⟩:=VX c (by omega);dsimp only at e0 e1 e2;exact⟨K0+K1+K2,fun k hk=>by simp only[HC.f];rw[e0 k (by omega),Option.bind_some,if_pos rfl,e1 k (by omega),Option.bind_some,if_pos rfl,e2 k (by omega),Option.bind_some,if_pos rfl,if_pos trivial]⟩
def LD (x:jh):al:=(⟨x.f0,x.f1,x.f2⟩:al)
theorem anR (l:List jh) (h:l.length≤1048576) (hd:∀x ∈ l,x.f1.length≤1048576):Ev (fun k=>k9.f k l) (l.map LD):=by
 have hf:=VZ (fun k out i=>k9.U k l out i) l.length (fun i=>LD (l.getD i tJ)) gV (fun i out r hi hl h=>?_) (fun out hl=>?_)
 ·rw[Lf]at hf;refine Ev.congr (fun k=>?_) hf;simp only[k9.f];rw[if_pos (by omega),if_pos (by omega)];rfl
 ·have hm:l.getD i tJ ∈ l:=r9 hi;obtain⟨K,hK⟩:=anO (l.getD i tJ).f1 (by have:=hd _ hm;omega);refine Ev.round ⟨K,fun k hk=>?_⟩ h;have t:=hK k hk;dsimp only at t;simp only[k9.U,HF.f,gS,Int.toNat_natCast];rw[if_pos (by omega),if_pos (by omega),t,Option.bind_some,Option.bind_some,if_pos (by omega),fM (n:=l.length) hi (by omega)];rfl
 ·refine Ev.ends (fun k=>?_);simp only[k9.U];rw[if_neg (by omega)]
theorem anQ (x:NK) (h0:x.f0.length≤1048576) (hd:∀y ∈ x.f0,y.f1.length≤1048576) (h1:x.f1.length≤1048576) (h2:x.f2.length≤1048576):Ev (fun k=>HD.f k x.f0 x.f1 x.f2 x.f3) (x.f0.map LD,x.f1.map toEntry,x.f2.map toEntry,x.f3):=by
 obtain⟨K0,e0⟩:=anR x.f0 h0 hd;obtain⟨K1,e1⟩:=aak x.f1 h1;obtain⟨K2,e2⟩:=aak x.f2 h2;dsimp only at e0 e1 e2;exact⟨K0+K1+K2,fun k hk=>by simp only[HD.f];rw[e0 k (by omega),Option.bind_some,e1 k (by omega),Option.bind_some,e2 k (by omega),Option.bind_some]⟩
theorem anB (x:jh) (hx:x.f1.length≤maxLen) (a:Int) (ha:0≤a) (hb:a≤1048576):∃t,xd.f x.f0 x.f1 x.f2 a=some t∧t≤a∧(0≤t→(x.f1.length:Int)≤a-t):=by
 unfold maxLen at hx;simp only[xd.f,zw.f,wrap64]
 (repeat' split)<;>first|exact⟨_,rfl,by omega,by omega⟩|(simp only[Option.bind_some];(repeat' split)<;>exact⟨_,rfl,by omega,by omega⟩)
theorem anA (l:List jh) (hx:l.length≤maxLen∧∀x ∈ l,x.f1.length≤maxLen) (a:Int) (ha:0≤a) (hb:a≤1048576):Comes (fun t=>t≤a∧(0≤t→(l.length:Int)≤a-t∧∀x ∈ l,x.f1.length≤1048576)) (fun k=>kG.f k l a):=by
 have hl:=hx.1;unfold maxLen at hl;have hw:wrap64 (a-(l.length:Int))=a-(l.length:Int):=dp (by omega) (by omega);simp only[kG.f,hw];refine Comes.ite (fun _=>Comes.ret (-1) ⟨by omega,fun h=>by omega⟩) (fun hn=>?_);refine(Z6 l tJ (fun x=>x.f1.length≤1048576) (fun k a i=>kG.U k l a i) (fun i a _=>xd.f (l.getD i tJ).f0 (l.getD i tJ).f1 (l.getD i tJ).f2 a) (by omega) (fun k a i hi _ _=>?_) (fun i a hi ha hb=>?_) (fun k a=>?_) _ (by omega) (by omega)).mono (fun t ht=>⟨by omega,fun h=>⟨by omega,ht.2 h⟩⟩)
 ·simp only[kG.U,gS,Int.toNat_natCast];rw[if_pos (by omega),if_pos (by omega),fM (n:=l.length) hi (by omega)]
 ·obtain⟨t,h1,h2,h3⟩:=anB (l.getD i tJ) (hx.2 _ (r9 hi)) a ha hb;exact Comes.some_ _ t h1 ⟨h2,fun h0=>by have:=h3 h0;omega⟩
 ·simp only[kG.U];rw[if_neg (by omega)]
theorem anx (x:NK) (h0:x.f0.length≤maxLen∧∀y ∈ x.f0,y.f1.length≤maxLen) (h1:x.f1.length≤maxLen∧∀y ∈ x.f1,y.f0.size≤maxLen) (h2:x.f2.length≤maxLen∧∀y ∈ x.f2,y.f0.size≤maxLen) (a:Int) (ha:0≤a) (hb:a≤1048576) :
 Comes (fun t=>t≤a∧(0≤t→x.f0.length≤1048576∧(∀y ∈ x.f0,y.f1.length≤1048576)∧x.f1.length≤1048576∧x.f2.length≤1048576)) (fun k=>Cy.f k x.f0 x.f1 x.f2 x.f3 a):=by
 simp only[Cy.f];refine Comes.bind (anA x.f0 h0 a ha hb) (fun t ht=>Comes.ite (fun _=>Comes.ret _ ⟨by omega,fun h=>by omega⟩) (fun hn=>?_));have r0:=ht.2 (by omega);refine Comes.bind (Z5 x.f1 h1 t (by omega) (by omega)) (fun u hu=>Comes.ite (fun _=>Comes.ret _ ⟨by omega,fun h=>by omega⟩) (fun FG=>?_));have r1:=hu.2 (by omega);refine Comes.bind (Z5 x.f2 h2 u (by omega) (by omega)) (fun v hv=>Comes.ite (fun _=>Comes.ret _ ⟨by omega,fun h=>by omega⟩) (fun hn3=>?_));have r2:=hv.2 (by omega);exact Comes.ret v ⟨by omega,fun _=>⟨by omega,r0.2,by omega,by omega⟩⟩
def np (a:Int) (n:Nat):List Int:=(List.range n).map fun (j:Nat)=>(a+(j:Int)) % 256
theorem Y5 (a:Int) (n:Nat):(np a n).length=n:=by simp[np]
theorem alW (a:Int) (n:Nat):np a (n+1)=np a n++[(a+(n:Int)) % 256]:=by simp[np,List.range_succ]
theorem alV (a:Int) (n i:Nat) (h:i<n):(np a n).getD i 0=(a+(i:Int)) % 256:=by
 simp[np,List.getD_eq_getElem?_getD,h]
theorem alY (a:Int) (n:Nat) (ha:0≤a) (hb:a+n≤9223372036854775806):∀(d:Nat) (l:List Int) (i:Nat),i+d=n→l.length=n→l.take i=np a i →
 Ev (fun k=>iN.U k l (a+(i:Int)) (i:Int)) (a+(n:Int),np a n):=by
 intro d
 induction d with
 |zero=>
  intro l i hi hl ht;have hin:i=n:=by omega
  subst hin;have e:l=np a i:=C0 ht hl;refine Ev.step (f:=fun _=>some (a+(i:Int),np a i)) (fun k=>?_) (Ev.now _);simp only[iN.U];rw[if_neg (by omega),e]
 |succ d ih=>
  intro l i hi hl ht;refine Ev.step (f:=fun k=>iN.U k (l.set i ((a+(i:Int)) % 256)) (a+((i+1:Nat):Int)) ((i+1:Nat):Int)) (fun k=>?_) (ih _ _ (by omega) (by simp[hl]) ?_)
  ·simp only[iN.U];rw[if_pos (by omega),if_pos (by omega),fM (n:=n) (by omega) (by omega),Int.toNat_natCast,dp (i:=a+(i:Int)+1) (by omega) (by omega)];congr 1;omega
  ·rw[C1 _ _ _ (by omega),alW,ht]
theorem Y6 (l:List Int) (a:Int) (ha:0≤a) (hb:a+l.length≤9223372036854775806):Ev (fun k=>iN.f k l a) (a+(l.length:Int),np a l.length):=by
 refine Ev.congr (fun k=>?_) (alY a l.length ha hb l.length l 0 (by omega) rfl rfl);simp only[iN.f];congr 1;simp
def HM:Nat→Int→ByteArray→ByteArray
 |0,_,s=>s
 |d+1,k,s=>if k>0 then HM d (k / 10) (strOfNums [(48+k % 10) % 256]++s) else s
def Q8 (k:Int):ByteArray:=if k≤0 then ⟨#[109,48]⟩ else ⟨#[109]⟩++HM 20 k ⟨#[]⟩
theorem al1:∀(d:Nat) (k:Int) (s:ByteArray),k<10 ^ d→k≤9223372036854775807→s.size+d≤9223372036854775806→Ev (fun q=>jW.U q k s) (⟨#[109]⟩++HM d k s):=by
 intro d
 induction d with
 |zero=>
  intro k s hk tl hs;refine Ev.ends (fun q=>?_);simp only[jW.U];rw[if_neg (by omega),if_pos (by omega)];rfl
 |succ d ih=>
  intro k s hk tl hs;by_cases h0:k>0
  ·have hp:(10:Int) ^ (d+1)=10 ^ d*10:=Int.pow_succ ..;have hsz:(strOfNums [(48+k % 10) % 256]++s).size=1+s.size:=by rw[ByteArray.size_append];rfl
   have hm:Int.tmod k 10=k % 10:=Int.tmod_eq_emod_of_nonneg (by omega);have hd:Int.tdiv k 10=k / 10:=Int.tdiv_eq_ediv_of_nonneg (by omega);have:=ih (k / 10) (strOfNums [(48+k % 10) % 256]++s) (by omega) (by omega) (by omega);unfold HM;rw[if_pos h0];refine Ev.step (fun q=>?_) this;simp only[jW.U,Option.bind_some];rw[if_pos h0,hm,hd,dp (i:=48+k % 10) (by omega) (by omega),dp (i:=k / 10) (by omega) (by omega),if_pos (by rw[←ByteArray.size_append,hsz];omega)]
  ·unfold HM;rw[if_neg h0];refine Ev.ends (fun q=>?_);simp only[jW.U];rw[if_neg h0,if_pos (by omega)]
theorem Y9 (k:Int) (h:k≤9223372036854775807):Ev (fun q=>jW.f q k) (Q8 k):=by
 unfold Q8;by_cases h0:k≤0
 ·rw[if_pos h0];exact Ev.all (fun q=>by simp only[jW.f];rw[if_pos h0])
 ·rw[if_neg h0];refine Ev.congr (fun q=>?_) (al1 20 k ⟨#[]⟩ (by omega) h (show (0:Nat)+20≤9223372036854775806 by omega));simp only[jW.f];rw[if_neg h0]
theorem ag6 {α:Type} {l:List α} {i:Nat} (x z:α) (h:i<l.length):(l.set i x).getD i z=x:=by
 rw[List.getD_eq_getElem?_getD,List.getElem?_set_self h];rfl
def KV (k:Int):aa:=(⟨Q8 (k),(k+1)⟩:aa)
def xg (a:Int) (n:Nat):List aa:=(List.range n).map fun (i:Nat)=>KV (a+2*(i:Int))
theorem Zd (a:Int) (n:Nat):(xg a n).length=n:=by simp[xg]
theorem Y8 (l:List aa) (a:Int) (ha:0≤a) (hb:a+2*(l.length:Int)≤4611686018427387904):Ev (fun k=>kF.f k l a) (a+2*(l.length:Int),xg a l.length):=by
 have hm:=al2 (fun k out s i=>kF.U k out s i) l.length (fun i=>KV (a+2*(i:Int))) (fun i=>a+2*(i:Int)) (fun i out r hi hl h=>?_) (fun out hl=>?_) l rfl
 ·refine Ev.congr (fun k=>?_) hm;simp only[kF.f];congr 1;simp
 ·(try dsimp only at h ⊢)
  obtain⟨K0,h0⟩:=Y9 (a+2*(i:Int)) (by omega);refine Ev.round ⟨0+K0,fun k hk=>?_⟩ h;have t0:=h0 k (by omega);dsimp only at t0;have e1:((i:Int)<(out.length:Int))=True:=eq_true (by omega);have e2:(0≤(i:Int))=True:=eq_true (by omega);have ew:wrap64 ((i:Int)+1)=((i+1:Nat):Int):=fM (n:=l.length) hi (by omega);have w1:wrap64 (a+2*(i:Int)+1)=a+2*(i:Int)+1:=dp (by omega) (by omega);have w2:wrap64 (a+2*(i:Int)+2)=a+2*(i:Int)+2:=dp (by omega) (by omega);have yv:a+2*(i:Int)+1+1=a+2*(i:Int)+2:=by omega
  have ae:a+2*(i:Int)+2=a+2*((i+1:Nat):Int):=by omega
  simp only[kF.U,e1,e2,if_true,t0,Option.bind_some,w1,w2,yv,ew,aG,Int.toNat_natCast,List.set_set,ag6 _ _ (show i<out.length by omega)]
  (rw[ae])<;>rfl
 ·refine Ev.ends (fun k=>?_);simp only[kF.U];rw[if_neg (by omega)]
def hD (l:List al) (a:Int):Nat→Int
 |0=>a
 |i+1=>hD l a i+2+((ai l (i:Int)).f1.length:Int)
def zz (l:List al) (a:Int) (i:Nat):al:=(⟨hD l a i,np (hD l a i+1) (ai l (i:Int)).f1.length,hD l a i+1+((ai l (i:Int)).f1.length:Int)⟩:al)
def zD (l:List al) (a:Int):List al:=(List.range l.length).map (zz l a)
theorem Ze (l:List al) (a:Int):(zD l a).length=l.length:=by simp[zD]
theorem R6 {l:List al} {i:Nat} (h:i<l.length):ai l (i:Int) ∈ l:=r9 h
theorem Hr (l:List al) (hd:∀x ∈ l,x.f1.length≤4194304) (a:Int):∀i,i≤l.length→a≤hD l a i∧hD l a i≤a+(i:Int)*4194306
 |0,_=>by simp[hD]
 |i+1,h=>by
  have h1:=Hr l hd a i (by omega);have h2:=hd _ (R6 (show i<l.length by omega));simp only[hD];omega
theorem al3 {β σ:Type} (L:Nat→List β→σ→Int→Option (σ × List β)) (l:List β) (z:β) (g:Nat→β) (st:Nat→σ)
 (hs:∀(i:Nat) (out:List β) (r:σ × List β),i<l.length→out.length=l.length→out.getD i z=l.getD i z→Ev (fun k=>L k (out.set i (g i)) (st (i+1)) ((i+1:Nat):Int)) r→Ev (fun k=>L k out (st i) (i:Int)) r)
 (he:∀out:List β,out.length=l.length→Ev (fun k=>L k out (st l.length) (l.length:Int)) (st l.length,out)):Ev (fun k=>L k l (st 0) 0) (st l.length,(List.range l.length).map g):=by
 have key:∀(d i:Nat) (out:List β),i+d=l.length→out.length=l.length→out.take i=(List.range i).map g→(∀j,i≤j→out.getD j z=l.getD j z)→Ev (fun k=>L k out (st i) (i:Int)) (st l.length,(List.range l.length).map g):=by
  intro d
  induction d with
  |zero=>
   intro i out hi hl ht _;have hin:i=l.length:=by omega
   subst hin;have e:=C0 ht hl;rw[←e];exact he out hl
  |succ d ih=>
   intro i out hi hl ht hg;refine hs i out _ (by omega) hl (hg i (Nat.le_refl _)) (ih (i+1) _ (by omega) (by simp[hl]) ?_ (fun j hj=>?_))
   ·rw[C1 _ _ _ (by omega),ht,List.range_succ,List.map_append];rfl
   ·rw[←hg j (by omega),List.getD_eq_getElem?_getD,List.getD_eq_getElem?_getD,List.getElem?_set_ne (by omega)]
 exact key l.length 0 l (by omega) rfl (by simp) (fun _ _=>rfl)
theorem al0 (l:List al) (a:Int) (ha:0≤a) (hb:a≤4611686018427387904) (h:l.length≤1048576) (hd:∀x ∈ l,x.f1.length≤4194304):Ev (fun k=>nW.f k l a) (hD l a l.length,zD l a):=by
 have hle:=Hr l hd a;have hm:=al3 (fun k out s i=>nW.U k out s i) l gV (zz l a) (hD l a) (fun i out r hi hl hg h=>?_) (fun out hl=>?_)
 ·refine Ev.congr (fun k=>?_) hm;simp only[nW.f];rfl
 ·have hrd:ai out (i:Int)=ai l (i:Int):=hg;have b1:=hle i (by omega);have b2:=hd _ (R6 hi);obtain⟨K0,h0⟩:=Y6 (ai l (i:Int)).f1 (hD l a i+1) (by omega) (by omega);refine Ev.round ⟨K0,fun k hk=>?_⟩ h;have t0:=h0 k (by omega);dsimp only at t0;simp only[nW.U,hrd,Int.toNat_natCast];rw[if_pos (by omega),if_pos (by omega),dp (i:=hD l a i+1) (by omega) (by omega),t0,Option.bind_some,fM (n:=l.length) hi (by omega),dp (by simp only[];omega) (by simp only[];omega)];simp only[zz,hD];congr 1;omega
 ·refine Ev.ends (fun k=>?_);simp only[nW.U];rw[if_neg (by omega)]
theorem alZ (a:List al) (b c:List aa) (n:Int) (h0:a.length≤1048576) (hd:∀x ∈ a,x.f1.length≤4194304) (h1:b.length≤1048576) (h2:c.length≤1048576) :
 0≤hD a 1 a.length+2*(b.length:Int)+2*(c.length:Int)∧Ev (fun k=>oF.f k a b c n 1) (hD a 1 a.length+2*(b.length:Int)+2*(c.length:Int),zD a 1,xg (hD a 1 a.length) b.length,xg (hD a 1 a.length+2*(b.length:Int)) c.length):=by
 have U:=(Hr a hd 1 a.length (Nat.le_refl _));obtain⟨K0,e0⟩:=al0 a 1 (by omega) (by omega) h0 hd;obtain⟨K1,e1⟩:=Y8 b (hD a 1 a.length) (by omega) (by omega);obtain⟨K2,e2⟩:=Y8 c (hD a 1 a.length+2*(b.length:Int)) (by omega) (by omega);dsimp only at e0 e1 e2;exact⟨by omega,K0+K1+K2,fun k hk=>by simp only[oF.f];rw[e0 k (by omega),Option.bind_some,e1 k (by omega),Option.bind_some,e2 k (by omega),Option.bind_some]⟩
theorem aiO (a:Int) (n:Nat) (ha:0≤a) (hb:a+n≤9223372036854775806):∀(d i:Nat),i+d=n→Ev (fun k=>jB.U k (np a n) (a+(i:Int)) (i:Int)) (a+(n:Int)):=by
 intro d
 induction d with
 |zero=>
  intro i hi;have hin:i=n:=by omega
  subst hin;refine Ev.step (f:=fun _=>some (a+(i:Int))) (fun k=>?_) (Ev.now _);simp only[jB.U,Y5];rw[if_neg (by omega)]
 |succ d ih=>
  intro i hi;refine Ev.step (f:=fun k=>jB.U k (np a n) (a+((i+1:Nat):Int)) ((i+1:Nat):Int)) (fun k=>?_) (ih _ (by omega));simp only[jB.U,Y5];rw[if_pos (by omega),if_pos (by omega),R7,if_pos (alV a n i (by omega)),fM (n:=n) (by omega) (by omega),dp (i:=a+(i:Int)+1) (by omega) (by omega)];congr 1;omega
theorem W9 (a:Int) (n:Nat) (ha:0≤a) (hb:a+n≤9223372036854775806):Ev (fun k=>jB.f k (np a n) a) (a+(n:Int)):=by
 refine Ev.congr (fun k=>?_) (aiO a n ha hb n 0 (by omega));simp only[jB.f];congr 1;simp
theorem Xa (a:Int) (n:Nat) (ha:0≤a) (hb:a+2*(n:Int)≤4611686018427387904):Ev (fun k=>fq.f k (xg a n) a) (a+2*(n:Int)):=by
 refine Ev.congr (fun k=>?_) (CK (fun i k=>fq.U k (xg a n) (a+2*(i:Int)) (i:Int)) n (a+2*(n:Int)) (fun i hi h=>?_) ?_)
 ·simp only[fq.f];congr 1;simp
 ·(try dsimp only at h ⊢)
  obtain⟨K0,h0⟩:=Y9 (a+2*(i:Int)) (by omega);refine Ev.round ⟨0+K0,fun k hk=>?_⟩ h;have t0:=h0 k (by omega);dsimp only at t0;have e1:((i:Int)<(n:Int))=True:=eq_true (by omega);have e2:(0≤(i:Int))=True:=eq_true (by omega);have ew:wrap64 ((i:Int)+1)=((i+1:Nat):Int):=fM (n:=n) hi (by omega);have eg:(xg a n).getD i kL=KV (a+2*(i:Int)):=R4 n i _ _ hi;have w1:wrap64 (a+2*(i:Int)+1)=a+2*(i:Int)+1:=dp (by omega) (by omega);have w2:wrap64 (a+2*(i:Int)+2)=a+2*(i:Int)+2:=dp (by omega) (by omega);have yv:a+2*(i:Int)+1+1=a+2*(i:Int)+2:=by omega
  have ae:a+2*(i:Int)+2=a+2*((i+1:Nat):Int):=by omega
  simp only[fq.U,Zd,e1,e2,if_true,t0,Option.bind_some,w1,w2,yv,ew,aG,Int.toNat_natCast,eg,KV,bne_self_eq_false,Bool.false_eq_true,if_false]
  first|((rw[ae])<;>rfl)|(simp only[beq_self_eq_true,bne_self_eq_false,Bool.false_eq_true,if_false,if_true,ae])
 ·refine Ev.ends (fun k=>?_);simp only[fq.U,Zd];rw[if_neg (by omega)]
theorem aiP (l:List al) (a:Int) (ha:0≤a) (hb:a≤4611686018427387904) (h:l.length≤1048576) (hd:∀x ∈ l,x.f1.length≤4194304):Ev (fun k=>kE.f k (zD l a) a) (hD l a l.length):=by
 have hle:=Hr l hd a;refine Ev.congr (fun k=>?_) (CK (fun i k=>kE.U k (zD l a) (hD l a i) (i:Int)) l.length (hD l a l.length) (fun i hi h=>?_) ?_)
 ·simp only[kE.f];rfl
 ·have hrd:ai (zD l a) (i:Int)=zz l a i:=R4 l.length i _ _ hi;have b1:=hle i (by omega);have b2:=hd _ (R6 hi);obtain⟨K0,h0⟩:=W9 (hD l a i+1) (ai l (i:Int)).f1.length (by omega) (by omega);refine Ev.round ⟨K0,fun k hk=>?_⟩ h;have t0:=h0 k (by omega);dsimp only at t0
  have t1:jB.f k (zz l a i).f1 (wrap64 (hD l a i+1))=some (hD l a i+1+((ai l (i:Int)).f1.length:Int)):=by
   rw[dp (i:=hD l a i+1) (by omega) (by omega)];exact t0
  simp only[kE.U,Ze,hrd];rw[if_pos (by omega),if_pos (by omega),if_pos (show (zz l a i).f0=hD l a i from rfl),t1,Option.bind_some,if_neg (by omega),if_pos (show (zz l a i).f2=hD l a i+1+((ai l (i:Int)).f1.length:Int) from rfl),fM (n:=l.length) hi (by omega),dp (by omega) (by omega)];simp only[hD];congr 1;omega
 ·refine Ev.ends (fun k=>?_);simp only[kE.U,Ze];rw[if_neg (by omega)]
theorem Y7 (a:List al) (b c:List aa) (n:Int) (h0:a.length≤1048576) (hd:∀x ∈ a,x.f1.length≤4194304) (h1:b.length≤1048576) (h2:c.length≤1048576) :
 ∃(m:Int) (a':List al) (b' c':List aa),(0≤m∧m≤4611686018427387904)∧Ev (fun k=>oF.f k a b c n 1) (m,a',b',c')∧Ev (fun k=>Cx.f k a' b' c' n 1) m:=by
 have U:=(Hr a hd 1 a.length (Nat.le_refl _));obtain⟨K3,e3⟩:=aiP a 1 (by omega) (by omega) h0 hd;obtain⟨K4,e4⟩:=Xa (hD a 1 a.length) b.length (by omega) (by omega);obtain⟨K5,e5⟩:=Xa (hD a 1 a.length+2*(b.length:Int)) c.length (by omega) (by omega);dsimp only at e3 e4 e5;have hm:=alZ a b c n h0 hd h1 h2;exact⟨_,_,_,_,⟨hm.1,by omega⟩,hm.2,K3+K4+K5,fun k hk=>by simp only[Cx.f];rw[e3 k (by omega),Option.bind_some,if_neg (by omega),e4 k (by omega),Option.bind_some,if_neg (by omega),e5 k (by omega),Option.bind_some,if_neg (by omega)]⟩
theorem al4 {β σ:Type} (L:Nat→List β→σ→Int→Option (σ × List β)) (l:List β) (z:β) (g:Nat→β) (st:Nat→σ)
 (hs:∀(i:Nat) (out:List β) (r:σ × List β),i<l.length→out.length=l.length→out.getD i z=l.getD i z→Ev (fun k=>L k (out.set i (g i)) (st (i+1)) ((i+1:Nat):Int)) r→Ev (fun k=>L k out (st i) (i:Int)) r)
 (he:∀out:List β,out.length=l.length→Ev (fun k=>L k out (st l.length) (l.length:Int)) (st l.length,out)):Ev (fun k=>L k l (st 0) 0) (st l.length,(List.range l.length).map g):=by
 have key:∀(d i:Nat) (out:List β),i+d=l.length→out.length=l.length→out.take i=(List.range i).map g→(∀j,i≤j→out.getD j z=l.getD j z)→Ev (fun k=>L k out (st i) (i:Int)) (st l.length,(List.range l.length).map g):=by
  intro d
  induction d with
  |zero=>
   intro i out hi hl ht _;have hin:i=l.length:=by omega
   subst hin;have e:=C0 ht hl;rw[←e];exact he out hl
  |succ d ih=>
   intro i out hi hl ht hg;refine hs i out _ (by omega) hl (hg i (Nat.le_refl _)) (ih (i+1) _ (by omega) (by simp[hl]) ?_ (fun j hj=>?_))
   ·rw[C1 _ _ _ (by omega),ht,List.range_succ,List.map_append];rfl
   ·rw[←hg j (by omega),List.getD_eq_getElem?_getD,List.getD_eq_getElem?_getD,List.getElem?_set_ne (by omega)]
 exact key l.length 0 l (by omega) rfl (by simp) (fun _ _=>rfl)
theorem agG (l:List (List Int)) (h:l.length≤1048576) (hd:∀x ∈ l,x.length≤1048576):Ev (fun k=>nU.f k l l) true:=by
 refine Ev.congr (fun k=>?_) (CK (fun i k=>nU.U k l l (i:Int)) l.length true (fun i hi h=>?_) ?_)
 ·simp only[nU.f];rw[if_pos trivial];rfl
 ·obtain⟨K,hK⟩:=VW (ja l (i:Int)) (by have:=hd _ (r9 (z:=[]) hi);have:(ja l (i:Int)).length≤1048576:=this;omega);refine Ev.round ⟨K,fun k hk=>?_⟩ h;have t:=hK k hk;dsimp only at t;simp only[nU.U,t,Option.bind_some,if_true];rw[if_pos (by omega),if_pos (by omega),if_pos (by omega),fM (n:=l.length) hi (by omega)]
 ·refine Ev.ends (fun k=>?_);simp only[nU.U];rw[if_neg (by omega)]
def lC (l:List (List Int)) (a:Int):Nat→Int
 |0=>a
 |i+1=>lC l a i+((l.getD i []).length:Int)
def HJ (l:List (List Int)) (a:Int) (i:Nat):List Int:=np (lC l a i) (l.getD i []).length
def zy (l:List (List Int)) (a:Int):List (List Int):=(List.range l.length).map (HJ l a)
theorem Zc (l:List (List Int)) (a:Int):(zy l a).length=l.length:=by simp[zy]
theorem N2 (l:List (List Int)) (hd:∀x ∈ l,x.length≤1048576) (a:Int):∀i,i≤l.length→a≤lC l a i∧lC l a i≤a+(i:Int)*1048576
 |0,_=>by simp[lC]
 |i+1,h=>by
  have h1:=N2 l hd a i (by omega);have h2:=hd _ (r9 (z:=[]) (show i<l.length by omega));simp only[lC];omega
theorem alX (l:List (List Int)) (a:Int) (ha:0≤a) (hb:a≤4611686018427387904) (h:l.length≤1048576) (hd:∀x ∈ l,x.length≤1048576):0≤lC l a l.length∧Ev (fun k=>nV.f k l a) (lC l a l.length,zy l a):=by
 have hle:=N2 l hd a;have hm:=al4 (fun k out s i=>nV.U k out s i) l [] (HJ l a) (lC l a) (fun i out r hi hl hg h=>?_) (fun out hl=>?_)
 ·refine⟨by have:=hle l.length (Nat.le_refl _);omega,Ev.congr (fun k=>?_) hm⟩;simp only[nV.f];rfl
 ·have b1:=hle i (by omega);have b2:=hd _ (r9 (z:=[]) hi);obtain⟨K0,h0⟩:=Y6 (l.getD i []) (lC l a i) (by omega) (by omega);refine Ev.round ⟨K0,fun k hk=>?_⟩ h;have t0:=h0 k (by omega);dsimp only at t0;simp only[nV.U,Int.toNat_natCast,hg];rw[if_pos (by omega),if_pos (by omega),t0,Option.bind_some,fM (n:=l.length) hi (by omega)];simp only[HJ,lC]
 ·refine Ev.ends (fun k=>?_);simp only[nV.U];rw[if_neg (by omega)]
theorem aiN (l:List (List Int)) (a:Int) (ha:0≤a) (hb:a≤4611686018427387904) (h:l.length≤1048576) (hd:∀x ∈ l,x.length≤1048576):Ev (fun k=>mm.f k (zy l a) a) (lC l a l.length):=by
 have hle:=N2 l hd a;refine Ev.congr (fun k=>?_) (CK (fun i k=>mm.U k (zy l a) (lC l a i) (i:Int)) l.length (lC l a l.length) (fun i hi h=>?_) ?_)
 ·simp only[mm.f];rfl
 ·have hrd:ja (zy l a) (i:Int)=HJ l a i:=R4 l.length i _ _ hi;have b1:=hle i (by omega);have b2:=hd _ (r9 (z:=[]) hi);obtain⟨K0,h0⟩:=W9 (lC l a i) (l.getD i []).length (by omega) (by omega);refine Ev.round ⟨K0,fun k hk=>?_⟩ h;have t0:jB.f k (HJ l a i) (lC l a i)=some (lC l a i+((l.getD i []).length:Int)):=h0 k (by omega);simp only[mm.U,Zc,hrd];rw[if_pos (by omega),if_pos (by omega),t0,Option.bind_some,if_neg (by omega),fM (n:=l.length) hi (by omega)];simp only[lC]
 ·refine Ev.ends (fun k=>?_);simp only[mm.U,Zc];rw[if_neg (by omega)]
abbrev Ld:=NK
def n8 (x:Ld):Dk:=⟨x.f0.map LD,x.f1.map toEntry,x.f2.map toEntry,x.f3⟩
def Br (cs:Array Value) (x:Ld) (w:World):Prop:=∃A0 c0 A1 c1 A2 c2,cs=#[.slice A0 x.f0.length c0,.slice A1 x.f1.length c1,.slice A2 x.f2.length c2,.int .i64 x.f3]∧x.f0.length≤c0∧Kd.C xa w A0 x.f0.length x.f0∧x.f1.length≤c1∧Kd.C sv w A1 x.f1.length x.f1∧x.f2.length≤c2∧Kd.C sv w A2 x.f2.length x.f2
theorem Br.below {cs:Array Value} {x:Ld} {w w1:World} (h:Br cs x w) (hb:Below w.heap.size w w1):Br cs x w1:=by
 obtain⟨A0,c0,A1,c1,A2,c2,e,U,g0,l1,g1,l2,g2⟩:=h;exact⟨A0,c0,A1,c1,A2,c2,e,U,Kd.aw g0 hb,l1,Kd.aw g1 hb,l2,Kd.aw g2 hb⟩
abbrev rg (lo hi k:Nat):Prop:=lo≤k∧k<hi
structure Ds (d:Dk):Prop where
 h0:d.f0.length≤1048576
 hd:∀y ∈ d.f0,y.f1.length≤4194304
 h1:d.f1.length≤1048576
 h2:d.f2.length≤1048576
theorem Small.V0 {d:Dk} (h:Small d.f0 d.f1 d.f2):Ds d:=⟨h.h0,h.hd,h.h1,h.h2⟩
theorem Fs.tu {b:Nat} {ok:Nat→Prop} {cs:Array Value} {d:Dk} {W:World} (h:Fs b ok cs d W):Fs b (fun k=>ok k∧k<W.heap.size) cs d W:=by
 obtain⟨v0,v1,v2,e,h0,h1,h2⟩:=h;exact⟨v0,v1,v2,e,Kd.dj (Kd.kS h0) (fun k h=>⟨⟨h.1.1,h.2.2.1⟩,h.1.2⟩),Kd.aK (Kd.iR h1) (fun k h=>⟨⟨h.1.1,h.2.2.1⟩,h.1.2⟩),Kd.aK (Kd.iR h2) (fun k h=>⟨⟨h.1.1,h.2.2.1⟩,h.1.2⟩)⟩
section
variable {w w0:World} {cs cs':Array Value} {x:Ld} {d:Dk}
theorem xSz {t:Int} {K:Nat} (h:Br cs x w) (ht:Cy.f K x.f0 x.f1 x.f2 x.f3 1048576=some t):Calls Tryz.prog 14 #[.agg cs,.int .i64 1048576] w (fun e w'=>e = .returned (.int .i64 t)∧Below w.heap.size w w'):=by
 obtain⟨A0,c0,A1,c1,A2,c2,rfl,U,g0,l1,g1,l2,g2⟩:=h;exact Cy.calls K _ _ _ _ _ _ _ _ _ _ _ _ w g0 U g1 l1 g2 l2 ht
theorem L3 (h:Br cs x w) (hB:Below w0.heap.size w0 w) (b0:x.f0.length≤1048576) (bd:∀y ∈ x.f0,y.f1.length≤1048576) (b1:x.f1.length≤1048576) (b2:x.f2.length≤1048576):Calls Tryz.prog 15 #[.agg cs] w (fun e w'=>∃cs' lo hi,e = .returned (.agg cs')∧w.heap.size≤lo∧hi≤w'.heap.size∧Fs w0.heap.size (rg lo hi) cs' (n8 x) w'∧Below w.heap.size w w'):=by
 obtain⟨K,hk⟩:=anQ x b0 bd b1 b2;obtain⟨A0,c0,A1,c1,A2,c2,rfl,U,g0,l1,g1,l2,g2⟩:=h;refine(HD.calls K _ _ _ _ _ _ _ _ _ _ _ _ _ _ w g0 U g1 l1 g2 l2 (hk K (Nat.le_refl _))).mono (fun e w' ⟨v0,v1,v2,he,h0,h1,h2,hb⟩=>⟨_,w.heap.size,w'.heap.size,he,Nat.le_refl _,Nat.le_refl _,?_,hb⟩);have h:Fe w.heap.size #[v0,v1,v2,.int .i64 x.f3] (n8 x) w':=vY h0 h1 h2;exact Fs.mono h.tu hB.size (fun k hk=>hk)
theorem L2 (h:cO cs d w) (h':cO cs' d w) (hf:Ds d):Calls Tryz.prog 16 #[.agg cs,.agg cs'] w (fun e w'=>e = .returned (.bool true)∧Below w.heap.size w w'):=by
 obtain⟨K,hk⟩:=agI d.f0 d.f1 d.f2 d.f3 hf.h0 hf.hd hf.h1 hf.h2;obtain⟨A0,c0,A1,c1,A2,c2,rfl,U,g0,l1,g1,l2,g2⟩:=h.open;obtain⟨B0,e0,B1,e1,B2,e2,rfl,m0,q0,m1,q1,m2,q2⟩:=h'.open;exact HC.calls K _ _ _ _ _ _ _ _ _ _ _ _ _ _ _ _ _ _ _ _ _ w g0 U g1 l1 g2 l2 q0 m0 q1 m1 q2 m2 (hk K (Nat.le_refl _))
theorem SN {A A':Option Addr} {c c':Nat} {L:List (List Int)} (h:Kd.C (Kd.slice 5 (Kd.int .u8)) w A L.length L) (hc:L.length≤c) (h':Kd.C (Kd.slice 5 (Kd.int .u8)) w A' L.length L) (hc':L.length≤c') (hL:L.length≤1048576) (hd:∀y ∈ L,y.length≤1048576):Calls Tryz.prog 17 #[.slice A L.length c,.slice A' L.length c'] w (fun e w'=>e = .returned (.bool true)∧Below w.heap.size w w'):=by
 obtain⟨K,hk⟩:=agG L hL hd;exact(nU.calls K A c L A' c' L _ w h hc h' hc' (hk K (Nat.le_refl _))).mono (fun e w' ⟨he,m,hd⟩=>⟨he,by subst hd;exact jZ (Below.refl _ _) m⟩)
theorem aaQ {ok:Nat→Prop} {a m:Int} {K:Nat} {a':List al} {b' c':List aa} (hB:Below w0.heap.size w0 w) (h:Fs w0.heap.size ok cs d w) (hm:oF.f K d.f0 d.f1 d.f2 d.f3 a=some (m,a',b',c')):Calls Tryz.prog 18 #[.agg cs,.int .i64 a] w (fun e w'=>e = .returned (.int .i64 m)∧Fs w0.heap.size ok cs ⟨a',b',c',d.f3⟩ w'∧Below w0.heap.size w0 w'∧Kept w w' ok):=by
 obtain⟨v0,v1,v2,rfl,h0,h1,h2⟩:=h;exact(oF.calls K _ v0 _ _ v1 _ _ v2 _ _ _ _ _ _ _ w0 w hB h0 h1 (fun k hk=>hk.2) h2 (fun k hk=>hk.2) hm).mono (fun e w' ⟨he,q0,q1,q2,hb,hk⟩=>⟨he,⟨v0,v1,v2,rfl,q0,q1,q2⟩,hb,hk.mono (fun k hk=>by rcases hk with hk|hk|hk<;>exact hk.1)⟩)
theorem aaO {a m:Int} {K:Nat} (h:cO cs d w) (hm:Cx.f K d.f0 d.f1 d.f2 d.f3 a=some m):Calls Tryz.prog 20 #[.agg cs,.int .i64 a] w (fun e w'=>e = .returned (.int .i64 m)∧Below w.heap.size w w'):=by
 obtain⟨A0,c0,A1,c1,A2,c2,rfl,U,g0,l1,g1,l2,g2⟩:=h.open;exact Cx.calls K _ _ _ _ _ _ _ _ _ _ _ _ w g0 U g1 l1 g2 l2 hm
theorem aoy {A:Option Addr} {c:Nat} {L:List (List Int)} {a m:Int} {K:Nat} (h:Kd.C (Kd.slice 5 (Kd.int .u8)) w A L.length L) (hc:L.length≤c) (hm:mm.f K L a=some m):Calls Tryz.prog 21 #[.slice A L.length c,.int .i64 a] w (fun e w'=>e = .returned (.int .i64 m)∧Below w.heap.size w w'):=
 (mm.calls K A c L a _ w h hc hm).mono (fun e w' ⟨he,m,hd⟩=>⟨he,by subst hd;exact jZ (Below.refl _ _) m⟩)
theorem aoz {ok:Nat→Prop} {v:Value} {a m:Int} {K:Nat} {L L':List (List Int)} (hB:Below w0.heap.size w0 w) (h:Kd.S (Mz.kz 5) 22 w w0.heap.size ok v L) (hm:nV.f K L a=some (m,L')):Calls Tryz.prog 19 #[v,.int .i64 a] w (fun e w'=>e = .returned (.int .i64 m)∧Kd.S (Mz.kz 5) 22 w' w0.heap.size ok v L'∧Below w0.heap.size w0 w'∧Kept w w' ok):=
 nV.calls K ok v L a m L' w0 w hB h hm
end
end Go.Proofs.YtingkpnoiekliaaGreat.MZ
