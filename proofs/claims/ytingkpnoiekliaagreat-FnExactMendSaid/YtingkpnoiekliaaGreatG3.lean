/- Walks and plain laws, put together: no condition of their own. -/
import Derived.Test.YtingkpnoiekliaaGreatG1
import Derived.Test.YtingkpnoiekliaaGreatG2
section
set_option linter.unusedVariables false
set_option linter.unusedSimpArgs false
namespace Go.Proofs.YtingkpnoiekliaaGreat.MZ
open Go.RowKit Go.Proofs.YtingkpnoiekliaaGreatW.PrintWords Go.Proofs.YtingkpnoiekliaaGreatW.PrintLast Go.Proofs.YtingkpnoiekliaaGreatW.PrintMore Go.Proofs.YtingkpnoiekliaaGreat.MWords
theorem dp {i:Int} (h0:-9223372036854775808≤i) (h1:i≤9223372036854775807):wrap64 i=i:=by unfold wrap64;omega
theorem fM {i n:Nat} (h:i<n) (hn:n≤9223372036854775807):wrap64 ((i:Int)+1)=((i+1:Nat):Int):=by unfold wrap64;omega
theorem R7 (xs:List Int) (i:Nat):rd xs (i:Int)=xs.getD i 0:=by simp[rd]
theorem C1 {α:Type} (l:List α) (i:Nat) (x:α) (h:i<l.length):(l.set i x).take (i+1)=l.take i++[x]:=by
 rw[List.take_succ_eq_append_getElem (by simpa using h),List.getElem_set_self,List.take_set_of_le (Nat.le_refl _)]
theorem anM {α:Type} (l:List α) (i:Nat) (d:α) (h:i<l.length):l.take (i+1)=l.take i++[l.getD i d]:=by
 rw[List.take_succ_eq_append_getElem h,List.getD_eq_getElem?_getD,List.getElem?_eq_getElem h];rfl
theorem C0 {α:Type} {l m:List α} {n:Nat} (h:l.take n=m) (hl:l.length=n):l=m:=by
 rw[←h,←hl,List.take_length]
theorem wf_u8 {x:Int} (h:(Lit.int .u8 x).wf=true):0≤x∧x≤255:=by
 simp[Lit.wf,IntKind.min,IntKind.max,IntKind.signed,IntKind.bits]at h;omega
theorem VZ {β:Type} (L:Nat→List β→Int→Option (List β)) (n:Nat) (g:Nat→β) (z:β)
 (hs:∀(i:Nat) (out:List β) (r:List β),i<n→out.length=n→Ev (fun k=>L k (out.set i (g i)) ((i+1:Nat):Int)) r→Ev (fun k=>L k out (i:Int)) r)
 (he:∀out:List β,out.length=n→Ev (fun k=>L k out (n:Int)) out):Ev (fun k=>L k (List.replicate n z) 0) ((List.range n).map g):=by
 have key:∀(d i:Nat) (out:List β),i+d=n→out.length=n→out.take i=(List.range i).map g→Ev (fun k=>L k out (i:Int)) ((List.range n).map g):=by
  intro d
  induction d with
  |zero=>
   intro i out hi hl ht;have:i=n:=by omega
   subst this;have e:=C0 ht hl;rw[←e];exact he out hl
  |succ d ih=>
   intro i out hi hl ht;refine hs i out _ (by omega) hl (ih (i+1) _ (by omega) (by simp[hl]) ?_);rw[C1 _ _ _ (by omega),ht,List.range_succ,List.map_append];rfl
 exact key n 0 _ (by omega) (by simp) (by simp)
theorem al2 {β σ:Type} (L:Nat→List β→σ→Int→Option (σ × List β)) (n:Nat) (g:Nat→β) (st:Nat→σ)
 (hs:∀(i:Nat) (out:List β) (r:σ × List β),i<n→out.length=n→Ev (fun k=>L k (out.set i (g i)) (st (i+1)) ((i+1:Nat):Int)) r→Ev (fun k=>L k out (st i) (i:Int)) r)
 (he:∀out:List β,out.length=n→Ev (fun k=>L k out (st n) (n:Int)) (st n,out)) (l:List β) (hl:l.length=n):Ev (fun k=>L k l (st 0) 0) (st n,(List.range n).map g):=by
 have key:∀(d i:Nat) (out:List β),i+d=n→out.length=n→out.take i=(List.range i).map g→Ev (fun k=>L k out (st i) (i:Int)) (st n,(List.range n).map g):=by
  intro d
  induction d with
  |zero=>
   intro i out hi hl ht;have:i=n:=by omega
   subst this;have e:=C0 ht hl;rw[←e];exact he out hl
  |succ d ih=>
   intro i out hi hl ht;refine hs i out _ (by omega) hl (ih (i+1) _ (by omega) (by simp[hl]) ?_);rw[C1 _ _ _ (by omega),ht,List.range_succ,List.map_append];rfl
 exact key n 0 _ (by omega) hl (by simp)
theorem CK {ρ : Type} (g : Nat → Nat → Option ρ) (n : Nat) (r : ρ) (hs : ∀ i, i < n → Ev (g (i + 1)) r → Ev (g i) r) (he : Ev (g n) r) : Ev (g 0) r := by
  have key : ∀ (d i : Nat), i + d = n → Ev (g i) r := by
    intro d
    induction d with
    | zero => intro i hi; have : i = n := by omega
              subst this; exact he
    | succ d ih => intro i hi; exact hs i (by omega) (ih (i + 1) (by omega))
  exact key n 0 (by omega)
theorem Lf {α β:Type} (l:List α) (f:α→β) (d:α):(List.range l.length).map (fun i=>f (l.getD i d))=l.map f:=by
 apply List.ext_getElem?;intro i;rw[List.getElem?_map,List.getElem?_map];by_cases h:i<l.length
 ·simp[h,List.getD_eq_getElem?_getD]
 ·rw[List.getElem?_eq_none (by simp;omega),List.getElem?_eq_none (by omega)];rfl
theorem R4 {β:Type} (n i:Nat) (g:Nat→β) (d:β) (h:i<n):((List.range n).map g).getD i d=g i:=by
 simp[List.getD_eq_getElem?_getD,h]
theorem Ev.bind' {α β:Type} {g:Nat→Option α} {f:Nat→α→Option β} {a:α} {r:β} (h:Ev g a) (k:Ev (fun n=>f n a) r):Ev (fun n=>(g n).bind (f n)) r:=Ev.bind h k
theorem Ev.cond {α:Type} {g f:Nat→Option α} {r:α} (h:∃K,∀k,K≤k→g k=f k) (k:Ev f r):Ev g r:=by
 obtain⟨K,h⟩:=h;obtain⟨K',k⟩:=k;exact⟨K+K',fun n hn=>by rw[h n (by omega)];exact k n (by omega)⟩
theorem Ev.round {α:Type} {g f:Nat→Option α} {r:α} (h:∃K,∀k,K≤k→g (k+1)=f k) (k:Ev f r):Ev g r:=by
 obtain⟨K,h⟩:=h;obtain⟨K',k⟩:=k
 exact⟨K+K'+1,fun n hn=>by
  obtain⟨m,rfl⟩:∃m,n=m+1:=⟨n-1,by omega⟩;rw[h m (by omega)];exact k m (by omega)⟩
theorem Ev.ends {α:Type} {g:Nat→Option α} {r:α} (h:∀k,g (k+1)=some r):Ev g r:=⟨1,fun n hn=>by
 obtain⟨m,rfl⟩:∃m,n=m+1:=⟨n-1,by omega⟩;exact h m⟩
theorem Ev.all {α:Type} {g:Nat→Option α} {r:α} (h:∀k,g k=some r):Ev g r:=⟨0,fun n _=>h n⟩
theorem r9 {α:Type} {l:List α} {i:Nat} {z:α} (h:i<l.length):l.getD i z ∈ l:=by
 rw[List.getD_eq_getElem?_getD,List.getElem?_eq_getElem h];exact List.getElem_mem h
def eT {ρ:Type} (p:Nat→Bool) (stop:Nat→ρ) (e:ρ):Nat→Nat→ρ
 |_,0=>e
 |i,d+1=>if p i=true then stop i else eT p stop e (i+1) d
theorem vX {ρ:Type} (g:Nat→Nat→Option ρ) (n:Nat) (p:Nat→Bool) (stop:Nat→ρ) (e:ρ)
 (hs:∀(i:Nat) (r:ρ),i<n→p i=false→Ev (g (i+1)) r→Ev (g i) r) (ht:∀i,i<n→p i=true→Ev (g i) (stop i)) (he:Ev (g n) e):Ev (g 0) (eT p stop e 0 n):=by
 have key:∀(d i:Nat),i+d=n→Ev (g i) (eT p stop e i d):=by
  intro d
  induction d with
  |zero=>
   intro i hi;have:i=n:=by omega
   subst this;exact he
  |succ d ih=>
   intro i hi;simp only[eT];by_cases h:p i=true
   ·rw[if_pos h];exact ht i (by omega) h
   ·rw[if_neg h];exact hs i _ (by omega) (by simpa using h) (ih (i+1) (by omega))
 exact key n 0 (by omega)
theorem JH {ρ:Type} {p q:Nat→Bool} {stop:Nat→ρ} {e:ρ}:∀(d i:Nat),(∀j,i≤j→j<i+d→p j=q j)→eT p stop e i d=eT q stop e i d
 |0,_,_=>rfl
 |d+1,i,h=>by
  simp only[eT];rw[h i (by omega) (by omega),JH d (i+1) (fun j h1 h2=>h j (by omega) (by omega))]
theorem yP {e:Bool} {p:Nat→Bool}:∀(d i:Nat),eT p (fun _=>false) e i d=(!eT p (fun _=>true) false i d&&e)
 |0,_=>by simp[eT]
 |d+1,i=>by
  simp only[eT];by_cases h:p i=true
  ·rw[if_pos h,if_pos h];rfl
  ·rw[if_neg h,if_neg h];exact yP d (i+1)
theorem EJ {p:Nat→Bool}:∀(d i:Nat),eT p (fun _=>true) false i d=false→∀j,i≤j→j<i+d→p j=false
 |0,i,_,j,h1,h2=>by omega
 |d+1,i,h,j,h1,h2=>by
  simp only[eT]at h;by_cases hp:p i=true
  ·rw[if_pos hp]at h;cases h
  ·rw[if_neg hp]at h;by_cases hj:j=i
   ·subst hj;simpa using hp
   ·exact EJ d (i+1) h j (by omega) (by omega)
theorem Po {p:Nat→Bool}:∀(d i:Nat),eT p (fun _=>true) false i d=true→∃j,i≤j∧j<i+d∧p j=true
 |0,_,h=>by simp[eT]at h
 |d+1,i,h=>by
  simp only[eT]at h;by_cases hp:p i=true
  ·exact⟨i,by omega,by omega,hp⟩
  ·rw[if_neg hp]at h;obtain⟨j,h1,h2,h3⟩:=Po d (i+1) h;exact⟨j,by omega,by omega,h3⟩
theorem Lh {l:List aa} {i:Nat} (h:i<l.length):aG l (i:Int) ∈ l:=r9 h
theorem sI {l:List al} {i:Nat} (h:i<l.length):ai l (i:Int) ∈ l:=r9 h
theorem amv (l:List aa) (i j:Nat) (h:j<i):aG (l.take i) (j:Int)=aG l (j:Int):=by
 simp only[aG,Int.toNat_natCast];rw[List.getD_eq_getElem?_getD,List.getD_eq_getElem?_getD,List.getElem?_take,if_pos h]
def named (l:List aa) (id:Int):Bool:=eT (fun i=>decide ((aG l (i:Int)).f1=id)) (fun _=>true) false 0 l.length
theorem alP (l:List aa) (h:l.length≤1048576) (id:Int):Ev (fun k=>nY.f k l id) (named l id):=by
 refine Ev.congr (fun k=>?_) (vX (fun i k=>nY.U k l id (i:Int)) l.length _ _ _ (fun i r hi hp h=>?_) (fun i hi hp=>?_) ?_)
 ·simp only[nY.f];rfl
 ·refine Ev.step (fun k=>?_) h;simp only[nY.U];rw[if_pos (by omega),if_pos (by omega),if_neg (by simpa using hp),fM (n:=l.length) hi (by omega)]
 ·refine Ev.ends (fun k=>?_);simp only[nY.U];rw[if_pos (by omega),if_pos (by omega),if_pos (by simpa using hp)]
 ·refine Ev.ends (fun k=>?_);simp only[nY.U];rw[if_neg (by omega)]
theorem EW (l:List aa) (h:l.length≤1048576) (id:Int):Ev (fun k=>jA.f k l id) (named l id):=by
 refine Ev.congr (fun k=>?_) (vX (fun i k=>jA.U k id l (l.length:Int) (i:Int)) l.length _ _ _ (fun i r hi hp h=>?_) (fun i hi hp=>?_) ?_)
 ·simp only[jA.f];rfl
 ·refine Ev.step (fun k=>?_) h;simp only[jA.U];rw[if_pos (by omega),if_pos (by omega),if_pos (by omega),if_neg (by simpa using hp),fM (n:=l.length) hi (by omega)]
 ·refine Ev.ends (fun k=>?_);simp only[jA.U];rw[if_pos (by omega),if_pos (by omega),if_pos (by omega),if_pos (by simpa using hp)]
 ·refine Ev.ends (fun k=>?_);simp only[jA.U];rw[if_neg (by omega)]
theorem Q9 {l:List aa} {id:Int} (h:named l id=true):id ∈ l.map (fun e=>e.f1):=by
 obtain⟨j,_,h2,h3⟩:=Po _ _ h;simp only[decide_eq_true_eq]at h3;rw[←h3];exact List.mem_map.2 ⟨_,Lh (by omega),rfl⟩
def fo (l:List al) (id:Int):Int:=eT (fun i=>decide ((ai l (i:Int)).f0=id)) (fun i=>(i:Int)) (-1) 0 l.length
theorem KP (l:List al) (b c:List aa) (n:Int) (h:l.length≤1048576) (id:Int):Ev (fun k=>gK.f k l b c n id) (fo l id):=by
 refine Ev.congr (fun k=>?_) (vX (fun i k=>gK.U k id (i:Int) l b c n) l.length _ _ _ (fun i r hi hp h=>?_) (fun i hi hp=>?_) ?_)
 ·simp only[gK.f];rfl
 ·refine Ev.step (fun k=>?_) h;simp only[gK.U];rw[if_pos (by omega),if_pos (by omega),if_neg (by simpa using hp),fM (n:=l.length) hi (by omega)]
 ·refine Ev.ends (fun k=>?_);simp only[gK.U];rw[if_pos (by omega),if_pos (by omega),if_pos (by simpa using hp)]
 ·refine Ev.ends (fun k=>?_);simp only[gK.U];rw[if_neg (by omega)]
theorem KK (l:List al) (b c:List aa) (n:Int) (h:l.length≤1048576) (id:Int):Ev (fun k=>iC.f k l b c n id) (fo l id):=by
 refine Ev.congr (fun k=>?_) (vX (fun i k=>iC.U k id l (l.length:Int) (i:Int)) l.length _ _ _ (fun i r hi hp h=>?_) (fun i hi hp=>?_) ?_)
 ·simp only[iC.f];rfl
 ·refine Ev.step (fun k=>?_) h;simp only[iC.U];rw[if_pos (by omega),if_pos (by omega),if_pos (by omega),if_neg (by simpa using hp),fM (n:=l.length) hi (by omega)]
 ·refine Ev.ends (fun k=>?_);simp only[iC.U];rw[if_pos (by omega),if_pos (by omega),if_pos (by omega),if_pos (by simpa using hp)]
 ·refine Ev.ends (fun k=>?_);simp only[iC.U];rw[if_neg (by omega)]
theorem aeY (s:ByteArray) (i:Int):0≤bt s i∧bt s i≤255:=by
 unfold bt;split
 ·have:=UInt8.toNat_lt (s[i.toNat]'(by assumption));omega
 ·omega
def yA (c:Int):Bool:=decide (¬((97≤c∧c≤122)∨(48≤c∧c≤57)∨c=45∨c=46))
def fv (s:ByteArray):Bool:=decide (1≤(s.size:Int)∧(s.size:Int)≤12)&&eT (fun i=>yA (bt s (i:Int))) (fun _=>false) true 0 s.size
theorem YJ (k:Nat) (s:ByteArray) (i:Nat) (hi:i<s.size):fI.U (k+1) s (i:Int)=fI.j1 k s (i:Int) (yA (bt s (i:Int))):=by
 simp only[fI.U];rw[if_pos (by omega),if_pos (by omega)];generalize bt s (i:Int)=c
 unfold yA
 (repeat' split)<;>(congr 1;rw[Bool.eq_iff_iff];simp;omega)
theorem YI (s:ByteArray) (h:s.size≤9223372036854775807):Ev (fun k=>fI.f k s) (fv s):=by
 have hn:fv s=eT (fun i=>yA (bt s (i:Int))) (fun _=>false) (decide (1≤(s.size:Int)∧(s.size:Int)≤12)) 0 s.size:=by
  unfold fv;rw[yP,yP,Bool.and_true,Bool.and_comm]
 rw[hn];refine Ev.congr (fun k=>?_) (vX (fun i k=>fI.U k s (i:Int)) s.size _ _ _ (fun i r hi hp h=>?_) (fun i hi hp=>?_) ?_)
 ·simp only[fI.f];rfl
 ·refine Ev.step (fun k=>YJ k s i hi) (Ev.step (f:=fun k=>fI.U k s ((i+1:Nat):Int)) (fun k=>?_) h);simp only[fI.j1];rw[if_neg (by simpa using hp),fM (n:=s.size) hi (by omega)]
 ·refine Ev.step (fun k=>YJ k s i hi) (Ev.ends (fun k=>?_));simp only[fI.j1];rw[if_pos (by simpa using hp)]
 ·refine Ev.ends (fun k=>?_);simp only[fI.U,qT.f];rw[if_neg (by omega)];split<;>(simp only[Option.bind_some];congr 1;rw[Bool.eq_iff_iff];simp;omega)
theorem Z1 (k:Nat) (s:ByteArray) (i:Nat) (hi:i<s.size):eZ.U (k+1) s (i:Int)=eZ.j1 k s (i:Int) (yA (bt s (i:Int))):=by
 have hb:=aeY s (i:Int);have hw:wrap64 (bt s (i:Int))=bt s (i:Int):=dp (by omega) (by omega);simp only[eZ.U,lg.f,hw];rw[if_pos (by omega),if_pos (by omega)];generalize bt s (i:Int)=c
 unfold yA;by_cases a1:c≥97<;>by_cases a2:c≤122<;>by_cases a3:c≥48<;>by_cases a4:c≤57<;>by_cases a5:c=45<;>simp only[a1,a2,a3,a4,a5,if_true,if_false,Option.bind_some,decide_true,decide_false,Bool.false_eq_true,reduceIte]<;>first|rfl|(congr 1;done)|(congr 1;rw[Bool.eq_iff_iff];simp;done)|(congr 1;rw[Bool.eq_iff_iff];simp;omega)
theorem Sg (s:ByteArray) (h:s.size≤9223372036854775807):Ev (fun k=>eZ.f k s) (fv s):=by
 have hl:Ev (fun k=>eZ.U k s 0) (eT (fun i=>yA (bt s (i:Int))) (fun _=>false) true 0 s.size):=by
  refine vX (fun i k=>eZ.U k s (i:Int)) s.size _ _ _ (fun i r hi hp h=>?_) (fun i hi hp=>?_) ?_
  ·refine Ev.step (fun k=>Z1 k s i hi) (Ev.step (f:=fun k=>eZ.U k s ((i+1:Nat):Int)) (fun k=>?_) h);simp only[eZ.j1];rw[if_neg (by simpa using hp),fM (n:=s.size) hi (by omega)]
  ·refine Ev.step (fun k=>Z1 k s i hi) (Ev.ends (fun k=>?_));simp only[eZ.j1];rw[if_pos (by simpa using hp)]
  ·refine Ev.ends (fun k=>?_);simp only[eZ.U];rw[if_neg (by omega)]
 unfold fv;by_cases h1:1≤(s.size:Int)∧(s.size:Int)≤12
 ·rw[decide_eq_true h1,Bool.true_and];refine Ev.congr (fun k=>?_) hl;simp only[eZ.f,lg.f];rw[if_pos (by omega),Option.bind_some,if_pos (by simpa using h1.2)]
 ·rw[decide_eq_false h1,Bool.false_and];refine Ev.all (fun k=>?_);simp only[eZ.f,lg.f];split
  ·simp only[Option.bind_some];rw[if_neg (by simp;omega)]
  ·simp
def na (ds:List al) (l:List aa) (i:Nat):Bool:=
 !fv (aG l (i:Int)).f0 || decide (fo ds (aG l (i:Int)).f1<0) || (decide (0<i) && !Op.bytesLess (aG l ((i-1:Nat):Int)).f0.toList (aG l (i:Int)).f0.toList) || named (l.take i) (aG l (i:Int)).f1
def gZ (ds:List al) (l:List aa):Bool:=eT (na ds l) (fun _=>false) (decide ((l.length:Int)≤30)) 0 l.length
def iW (ds:List al) (ns ss:List aa) (nx:Int) (i:Nat):Bool:=
 !decide (1≤(ai ds (i:Int)).f0∧(ai ds (i:Int)).f0≤wrap64 (nx-1)) || !decide (0≤(ai ds (i:Int)).f2∧(ai ds (i:Int)).f2≤((ai ds (i:Int)).f1.length:Int)) || (decide (0<i)&&decide ((ai ds ((i-1:Nat):Int)).f0≥(ai ds (i:Int)).f0)) || (!named ns (ai ds (i:Int)).f0 && !named ss (ai ds (i:Int)).f0)
def iZ (ds:List al):Nat→Int
 |0=>0
 |i+1=>iZ ds i+((ai ds (i:Int)).f1.length:Int)
theorem Zv (ds:List al) (hd:∀x ∈ ds,x.f1.length≤4194304):∀i,i≤ds.length→0≤iZ ds i∧iZ ds i≤(i:Int)*4194304
 |0,_=>by simp[iZ]
 |i+1,h=>by
  have h1:=Zv ds hd i (by omega);have h2:=hd _ (sI (show i<ds.length by omega));simp only[iZ];omega
def oE (ds:List al) (ns ss:List aa) (nx:Int):Bool:=!eT (iW ds ns ss nx) (fun _=>true) false 0 ds.length
def bR (ds:List al) (ns ss:List aa) (nx:Int):Bool:=
 decide (1≤nx∧nx≤1000000)&&(oE ds ns ss nx&&(decide (iZ ds ds.length≤60000)&&(gZ ds ns&&gZ ds ss)))
theorem YK (a b c:Int):(if a≥b then (some (decide (a≤c))) else (some false))=some (decide (b≤a∧a≤c)):=by
 split
 ·congr 1;rw[Bool.eq_iff_iff];simp;omega
 ·congr 1;rw[Bool.eq_iff_iff];simp;omega
theorem Zt:∀(n:Nat) (f:Nat→Int) (m:List Int),(∀i j,i<j→j<n→f i≠f j)→(∀i,i<n→f i ∈ m)→n≤m.length
 |0,_,_,_,_=>Nat.zero_le _
 |n+1,f,m,hne,hm=>by
  have hn:=hm n (by omega);have h:=Zt n f (m.erase (f n)) (fun i j h1 h2=>hne i j h1 (by omega)) (fun i hi=>(List.mem_erase_of_ne (hne i n hi (by omega))).2 (hm i (by omega)));rw[List.length_erase_of_mem hn]at h;have:0<m.length:=List.length_pos_of_mem hn;omega
theorem JC {ds:List al} {l:List aa} (h:gZ ds l=true):l.length≤30:=by
 unfold gZ at h;rw[yP,Bool.and_eq_true,decide_eq_true_eq]at h;omega
theorem wZ {ds:List al} {ns ss:List aa} {nx:Int} (h:oE ds ns ss nx=true) (i:Nat) (hi:i<ds.length):iW ds ns ss nx i=false:=
 EJ _ _ (by simpa[oE] using h) i (by omega) (by omega)
theorem YN {ds:List al} {ns ss:List aa} {nx:Int} {i:Nat} (h:iW ds ns ss nx i=false) (hi:0<i):(ai ds ((i-1:Nat):Int)).f0<(ai ds (i:Int)).f0:=by
 unfold iW at h;rw[Bool.or_eq_false_iff,Bool.or_eq_false_iff,decide_eq_true hi,Bool.true_and,decide_eq_false_iff_not]at h;omega
theorem YP {ds:List al} {ns ss:List aa} {nx:Int} (h:oE ds ns ss nx=true):∀(d i:Nat),i+d+1<ds.length→(ai ds (i:Int)).f0<(ai ds ((i+d+1:Nat):Int)).f0
 |0,i,hi=>YN (wZ h (i+1) (by omega)) (by omega)
 |d+1,i,hi=>by
  have h1:=YP h d i (by omega);have h2:=YN (wZ h (i+d+1+1) (by omega)) (by omega);rw[show i+d+1+1-1=i+d+1 from rfl]at h2;rw[show i+(d+1)+1=i+d+1+1 from by omega];omega
theorem Ph {ds:List al} {ns ss:List aa} {nx:Int} (h:oE ds ns ss nx=true) (h1:gZ ds ns=true) (h2:gZ ds ss=true):ds.length≤60:=by
 have l1:=JC h1;have l2:=JC h2
 have hp:=Zt ds.length (fun i=>(ai ds (i:Int)).f0) (ns.map (fun e=>e.f1)++ss.map (fun e=>e.f1)) (fun i j hij hj=>by
  have:=YP h (j-i-1) i (by omega);have e:i+(j-i-1)+1=j:=by omega
  rw[e]at this;show (ai ds (i:Int)).f0≠(ai ds (j:Int)).f0;omega) (fun i hi=>by
  have hb:=wZ h i hi;unfold iW at hb;rw[Bool.or_eq_false_iff,Bool.and_eq_false_iff]at hb
  rcases hb.2 with hb|hb
  ·exact List.mem_append_left _ (Q9 (by simpa using hb))
  ·exact List.mem_append_right _ (Q9 (by simpa using hb)))
 rw[List.length_append,List.length_map,List.length_map]at hp;omega
structure Small (ds:List al) (ns ss:List aa):Prop where
 h0:ds.length≤1048576
 hd:∀x ∈ ds,x.f1.length≤4194304
 h1:ns.length≤1048576
 h2:ss.length≤1048576
 z1:∀e ∈ ns,e.f0.size≤9223372036854775807
 z2:∀e ∈ ss,e.f0.size≤9223372036854775807
def CL (ds:List al) (ns ss:List aa):Bool:=decide (ds.length≤1048576)&&(ds.all (fun x=>decide (x.f1.length≤4194304))&&(decide (ns.length≤1048576)&&(decide (ss.length≤1048576)&&(ns.all (fun e=>decide (e.f0.size≤9223372036854775807))&&ss.all (fun e=>decide (e.f0.size≤9223372036854775807))))))
theorem xr {ds:List al} {ns ss:List aa}:CL ds ns ss=true↔Small ds ns ss:=by
 unfold CL;simp only[Bool.and_eq_true,decide_eq_true_eq,List.all_eq_true];exact⟨fun ⟨a,b,c,d,e,f⟩=>⟨a,b,c,d,e,f⟩,fun h=>⟨h.h0,h.hd,h.h1,h.h2,h.z1,h.z2⟩⟩
theorem BS {ρ:Type} {p:Nat→Bool} {s:Nat→ρ} {e:ρ} {i k:Nat} (h:p i=true):eT p s e i (k+1)=s i:=if_pos h
theorem EK {ρ:Type} {p:Nat→Bool} {s:Nat→ρ} {e:ρ} {i k:Nat} (h:p i=false):eT p s e i (k+1)=eT p s e (i+1) k:=if_neg (by rw[h];decide)
theorem Zu {ds:List al} (hd:∀x ∈ ds,x.f1.length≤4194304) {i:Nat} (h:i<ds.length) (hl:ds.length≤1048576):wrap64 (iZ ds i+((ai ds (i:Int)).f1.length:Int))=iZ ds (i+1):=by
 have h1:=Zv ds hd i (by omega);have h2:=hd _ (sI h);show _=iZ ds i+_;unfold wrap64;omega
theorem al8 {l:List aa} {i:Nat} (h:i≤l.length) (id:Int):named (l.take i) id=eT (fun j=>decide ((aG l (j:Int)).f1=id)) (fun _=>true) false 0 i:=by
 unfold named;rw[List.length_take,Nat.min_eq_left h];exact JH i 0 (fun j _ hj=>by rw[amv l i j (by omega)])
theorem fu {w:World} {g:Nat} {t:TypeId} {u0 u1 u2 u3:Value} (h:w.heap[g]? = some (.cells #[u0,u1,u2,u3] t (0,0))):w.cell? ⟨g,0,none⟩=some u0∧w.cell? ⟨g,1,none⟩=some u1∧w.cell? ⟨g,2,none⟩=some u2∧w.cell? ⟨g,3,none⟩=some u3:=⟨mZ h 0,mZ h 1,mZ h 2,mZ h 3⟩
theorem Vf {w:World} {ad:Addr} {n:Nat} {xs:List al} {p:al} (h:Kd.C bc w (some ad) n xs) {j:Nat} (hj:j<n) (de:Int) (e:de=(j:Int)) (hp:ai xs (j:Int)=p):w.cell? (ad.add (de.toNat*3))=some (.int .i64 p.f0):=by
 subst e hp;obtain⟨yv,A',c',e2,z0,_⟩:=hY h (j:Int) (by omega) (by omega);obtain rfl:=Option.some.inj e2;exact z0
theorem Vg {w:World} {ad:Addr} {n:Nat} {xs:List aa} {p:aa} (h:Kd.C an w (some ad) n xs) {j:Nat} (hj:j<n) (de:Int) (e:de=(j:Int)) (hp:aG xs (j:Int)=p):w.cell? (ad.add (de.toNat*2))=some (.string p.f0):=by
 subst e hp;obtain⟨yv,e2,z0,_⟩:=gi h (j:Int) (by omega) (by omega);obtain rfl:=Option.some.inj e2;exact z0
section
variable {w:World} {cs:Array Value} {d:Dk} {nm:ByteArray} {A:Option Addr} {c:Nat} {l:List aa}
theorem Es (hn:nm.size≤9223372036854775807):Calls Tryz.prog 26 #[.string nm] w (fun e w'=>e = .returned (.bool (fv nm))∧Below w.heap.size w w'):=by
 obtain⟨K,hk⟩:=YI nm hn;exact(fI.calls K nm _ w (hk K (Nat.le_refl _))).mono (fun e w' ⟨he,m,hd⟩=>⟨he,by subst hd;exact jZ (Below.refl _ _) m⟩)
theorem ZO (hn:nm.size≤9223372036854775807):Calls Tryz.prog 72 #[.string nm] w (fun e w'=>e = .returned (.bool (fv nm))∧Below w.heap.size w w'):=by
 obtain⟨K,hk⟩:=Sg nm hn;exact(eZ.calls K nm _ w (hk K (Nat.le_refl _))).mono (fun e w' ⟨he,m,hd⟩=>⟨he,by subst hd;exact jZ (Below.refl _ _) m⟩)
theorem afj (hd:cO cs d w) (h0:d.f0.length≤1048576) (id:Int):Calls Tryz.prog 35 #[.agg cs,.int .i64 id] w (fun e w'=>e = .returned (.int .i64 (fo d.f0 id))∧Below w.heap.size w w'):=by
 obtain⟨K,hk⟩:=KK d.f0 d.f1 d.f2 d.f3 h0 id;obtain⟨A0,c0,A1,c1,A2,c2,rfl,U,g0,l1,g1,l2,g2⟩:=hd.open;exact iC.calls K _ _ _ _ _ _ _ _ _ _ id _ w g0 U g1 l1 g2 l2 (hk K (Nat.le_refl _))
theorem amK (hd:cO cs d w) (h0:d.f0.length≤1048576) (id:Int):Calls Tryz.prog 74 #[.agg cs,.int .i64 id] w (fun e w'=>e = .returned (.int .i64 (fo d.f0 id))∧Below w.heap.size w w'):=by
 obtain⟨K,hk⟩:=KP d.f0 d.f1 d.f2 d.f3 h0 id;obtain⟨A0,c0,A1,c1,A2,c2,rfl,U,g0,l1,g1,l2,g2⟩:=hd.open;exact gK.calls K _ _ _ _ _ _ _ _ _ _ id _ w g0 U g1 l1 g2 l2 (hk K (Nat.le_refl _))
theorem Ou (hr:Kd.C an w A l.length l) (hc:l.length≤c) (hl:l.length≤1048576) (id:Int):Calls Tryz.prog 39 #[.slice A l.length c,.int .i64 id] w (fun e w'=>e = .returned (.bool (named l id))∧Below w.heap.size w w'):=by
 obtain⟨K,hk⟩:=EW l hl id;exact jA.calls K A c l id _ w hr hc (hk K (Nat.le_refl _))
theorem Lp (hr:Kd.C an w A l.length l) (hc:l.length≤c) (hl:l.length≤1048576) (id:Int):Calls Tryz.prog 108 #[.slice A l.length c,.int .i64 id] w (fun e w'=>e = .returned (.bool (named l id))∧Below w.heap.size w w'):=by
 obtain⟨K,hk⟩:=alP l hl id;exact(nY.calls K A c l id _ w hr hc (hk K (Nat.le_refl _))).mono (fun e w' ⟨he,m,hd⟩=>⟨he,by subst hd;exact jZ (Below.refl _ _) m⟩)
theorem Ov (x a b:Int):Calls Tryz.prog 38 #[.int .i64 x,.int .i64 a,.int .i64 b] w (fun e w'=>e = .returned (.bool (decide (a≤x∧x≤b)))∧Below w.heap.size w w'):=
 (qT.calls x a b _ w (YK x a b)).mono (fun e w' ⟨he,m,hd⟩=>⟨he,by subst hd;exact jZ (Below.refl _ _) m⟩)
theorem Sc (x a b:Int):Calls Tryz.prog 107 #[.int .i64 x,.int .i64 a,.int .i64 b] w (fun e w'=>e = .returned (.bool (decide (a≤x∧x≤b)))∧Below w.heap.size w w'):=
 (lg.calls x a b _ w (YK x a b)).mono (fun e w' ⟨he,m,hd⟩=>⟨he,by subst hd;exact jZ (Below.refl _ _) m⟩)
end
end Go.Proofs.YtingkpnoiekliaaGreat.MZ
end
section
namespace Go.Proofs.YtingkpnoiekliaaGreat.MZ
open Go.RowKit Go.Proofs.YtingkpnoiekliaaGreatW.PrintWords Go.Proofs.YtingkpnoiekliaaGreatW.PrintLast Go.Proofs.YtingkpnoiekliaaGreatW.PrintMore Go.Proofs.YtingkpnoiekliaaGreat.MWords
set_option linter.unusedVariables false
set_option linter.unusedSimpArgs false
theorem aeS {α:Type} (d:Kd α) {Rr:α→List Value→Prop} {W:World} {b g:Nat} {t e ty:TypeId} {z:Value} {bytes:Nat} (ht:Tryz.prog.underlying t=some (.slice e)) (hinfo:(Tryz.prog.info? e).map (fun i=>(i.zero,i.size,i.bytes))=some (some z,d.sz,bytes)) (hz:z.cells.size=d.sz) (eW:0<d.sz) (fV:0<bytes) (hg:W.heap[g]? = some (.cells #[] e (0,0))) (hbg:b≤g) {A:Option Addr} {m c:Nat} {ys:List α} (HR:lx Rr d.sz W A m ys) (hKM:∀W x cs,Rr x cs→d.M W b (fun _=>False) x cs) (hl:m*bytes≤140737488355328) :
 ∃k c1 w1,(Builtin.append_ #[t,t] ty #[.slice (some ⟨g,0,none⟩) 0 0,.slice A m c]).run Tryz.prog W = .ok (.slice (some ⟨k,0,none⟩) ys.length c1) w1∧d.R e w1 b (fun j=>j=k) (.slice (some ⟨k,0,none⟩) ys.length c1) ys∧Below W.heap.size W w1∧(k=g∨k=W.heap.size)∧k<w1.heap.size:=by
 obtain⟨i0,hi,hzz⟩:=Option.map_eq_some_iff.1 hinfo;simp only[Prod.mk.injEq]at hzz;obtain⟨oD,jn,nk⟩:=hzz;have hm:ys.length=m:=HR.1;have hgl:g<W.heap.size:=eF hg;have hown:W.ownsRow b e d.sz (.slice (some ⟨g,0,none⟩) 0 0) 0 []:=⟨by simp,.inr ⟨g,0,#[],rfl,hbg,hg,Nat.le_refl _,by simp[maxLen],by simp,by simp⟩⟩;have hok:∀ {k n c:Nat} (j:Nat),(Value.slice (some ⟨k,0,none⟩) n c).ownBlock=some j→j=k:=fun j hj=>by simpa[Value.ownBlock] using hj.symm
 by_cases h0:m=0
 ·subst h0;obtain rfl:ys=[]:=List.eq_nil_of_length_eq_zero hm;refine⟨g,0,W,?_,⟨hok,[],hown,bw.none _ _⟩,Below.refl _ _,.inl rfl,hgl⟩
  rcases A with _|ad
  ·simp[Builtin.append_,run_underlying ht,sizeOf,typeInfo,hi,Builtin.lenOf,Builtin.firstCells,storeCells]
  ·simp[Builtin.append_,run_underlying ht,sizeOf,typeInfo,hi,Builtin.lenOf,Builtin.firstCells,storeCells,loadCells,loadCellsFrom]
 ·obtain⟨ad,rfl,_⟩:=HR.2.2 (by omega);obtain⟨news,hnr,hnc⟩:=lx.QY HR;have hnM:∀W,bw (d.M W b (fun _=>False)) d.sz ys news:=fun W=>hnr.iL (fun p c hp=>hKM W p c hp)
  have hone:∀u ∈ news,u.oneCell'=true:=by
   intro u hu;obtain⟨q,hq,rfl⟩:=List.mem_iff_getElem.1 hu
   have hql:q / d.sz<ys.length:=by
    rw[Nat.div_lt_iff_lt_mul eW];rw[←(hnM W).1];exact hq
   have hc:=(hnM W).2 (q / d.sz) _ (List.getElem?_eq_getElem hql);refine d.K_one (d.K_of_M hc) _ ?_;rw[List.mem_iff_getElem?];refine⟨q % d.sz,?_⟩;rw[List.getElem?_take,if_pos (Nat.mod_lt _ eW),List.getElem?_drop,Nat.mul_comm,Nat.div_add_mod,List.getElem?_eq_getElem hq]
  have hmb:m≤140737488355328:=Nat.le_trans (Nat.le_mul_of_pos_right _ fV) hl;subst nk;have XI:(0+m)*i0.bytes≤140737488355328:=by rw[Nat.zero_add];exact hl
  obtain⟨v1,w1,hrun,h2,_,_,_⟩:=run_append_own_at (P:=Tryz.prog) W b t ty e i0 z d.sz i0.bytes ht hi oD jn rfl hz eW (.slice (some ⟨g,0,none⟩) 0 0) 0 [] hown ad m c news (by rw[(hnM W).1,hm]) hnc hone (by simp only[maxLen];omega) XI (by omega);have hr:=run_append_grow (P:=Tryz.prog) W t ty e i0 z ht hi oD ⟨g,0,none⟩ 0 0 [] (by simp) (by simp) ad m c news (by rw[jn,(hnM W).1,hm]) hnc (by omega) (by omega) (growslice_fits (by omega) XI);rw[hr]at hrun;injection hrun with e1 e2
  subst e1;subst e2;simp only[Nat.zero_add,List.nil_append]at h2 hr;rw[hm];refine⟨W.heap.size,_,_,hr,⟨hok,news,by rw[hm];exact h2,(hnM _).iL (fun p c hp=>d.M_mono (fun _ h=>h.elim) hp)⟩,oz (vM (Below.refl _ _)) _,.inr rfl,by simp⟩
theorem ann {α:Type} {d:Kd α} {w0 w w1:World} {X:Nat→Prop} {bs:List (Nat × Array Value)} {Qb:World→Prop} {g k:Nat} {e:TypeId} {v:Value} {ys:List α} (HS:St w0 X bs Qb w) (hE:w.heap[g]? = some (.cells #[] e (0,0))) (hx:¬X g) (hxs:∀k,w.heap.size≤k→¬X k) (hne:e≠27) (hR:d.R e w1 w0.heap.size (fun j=>j=k) v ys) (hb:Below w.heap.size w w1) (hk:k=g∨k=w.heap.size):St w0 X bs (fun W=>Qb W∧d.R e W w0.heap.size (fun j=>j=k) v ys) w1:=by
 refine(HS.below hb).and (fun W hW=>Kd.nI hR (fun j hj=>hW j ?_));subst hj;refine⟨hk.elim (fun h=>h▸hx) (fun h=>hxs _ (by omega)),fun bb hm hc=>?_⟩;have h2:=(HS.bx bb hm).2.2;rw[hc]at h2
 rcases hk with rfl|rfl
 ·rw[hE]at h2;injection h2 with h2
  injection h2 with _ h2
  exact hne h2
 ·exact absurd (eF h2) (Nat.lt_irrefl _)
section
variable {ops:Array Oper} {rest:List Oper} {o:Oper} {a:Act} {w w0:World} {K:Exit→Act→World→Prop} {X:Nat→Prop} {bs:List (Nat × Array Value)} {Qb:World→Prop}
theorem uE {N:Tmp} (e:TypeId) (HS:St w0 X bs Qb w) (hx:∀k,w.heap.size≤k→¬X k) (h:∀g w1,g=w.heap.size→g<w1.heap.size→Below w.heap.size w w1→St w0 X bs (fun W=>Qb W∧W.heap[g]? = some (.cells #[] e (0,0))) w1→wpList Tryz.prog ops K rest (a.put (some N) (.slice (some ⟨g,0,none⟩) 0 0)) w1)
 (hd:o.dst=some N:=by exact rfl) (hg:o.guard=none:=by rfl) (hrun:(execOp a.eval o).run Tryz.prog w = .ok (.value (.slice (some ⟨w.heap.size,0,none⟩) 0 0)) (w.alloc (.cells #[] e)):=by first|(go_simp;done)|(go_simp;rfl)):wpList Tryz.prog ops K (o::rest) a w:=by
 have hbx:(w.alloc (.cells #[] e)).heap[w.heap.size]? = some (.cells #[] e (0,0)):=heap_alloc_new w _;have hb:Below w.heap.size w (w.alloc (.cells #[] e)):=oz (Below.refl _ _) _;refine Kd.yO hg hrun ?_;rw[hd];exact h w.heap.size _ rfl (eF hbx) hb (HS.call hb (fun W hW=>by rw[hW w.heap.size (Nat.le_refl _) (eF hbx)];exact hbx) hx)
theorem uL1 (cs:Array Value) (n:Nat) (e:TypeId) (h:wpList Tryz.prog ops K rest (a.put o.dst (.slice (some ⟨w.heap.size,0,none⟩) n n)) (w.alloc (.cells cs e))) (hg:o.guard=none:=by rfl) (hrun:(execOp a.eval o).run Tryz.prog w = .ok (.value (.slice (some ⟨w.heap.size,0,none⟩) n n)) (w.alloc (.cells cs e)):=by first|(go_simp;done)|(go_simp;rfl)):wpList Tryz.prog ops K (o::rest) a w:=Kd.yO hg hrun h
theorem uA {α:Type} (d:Kd α) {N:Tmp} {g:Nat} {t e:TypeId} {z:Value} {bytes:Nat} {Rr:α→List Value→Prop} {ps px:Operand} {A:Option Addr} {m c:Nat} {ys:List α} (HS:St w0 X bs Qb w) (hE:w.heap[g]? = some (.cells #[] e (0,0))) (hx:¬X g) (hxs:∀k,w.heap.size≤k→¬X k) (hbg:w0.heap.size≤g) (HR:lx Rr d.sz w A m ys)
 (h:∀k c1 w1,(k=g∨k=w.heap.size)→k<w1.heap.size→Below w.heap.size w w1→St w0 X bs (fun W=>Qb W∧d.R e W w0.heap.size (fun j=>j=k) (.slice (some ⟨k,0,none⟩) ys.length c1) ys) w1→wpList Tryz.prog ops K rest (a.put (some N) (.slice (some ⟨k,0,none⟩) ys.length c1)) w1)
 (hl:m*bytes≤140737488355328) (ht:Tryz.prog.underlying t=some (.slice e)) (hinfo:(Tryz.prog.info? e).map (fun i=>(i.zero,i.size,i.bytes))=some (some z,d.sz,bytes)) (hne:e≠27:=by decide) (hKM:∀W x cs,Rr x cs→d.M W w0.heap.size (fun _=>False) x cs:=by exact fun _ _ _ h=>h) (hz:z.cells.size=d.sz:=by rfl) (eW:0<d.sz:=by decide) (fV:0<bytes:=by decide)
 (ho:o.op = .call { callee:=.builtin .append,args:=#[ps,px],argTypes:=#[t,t] }:=by rfl) (hs:a.eval ps = .slice (some ⟨g,0,none⟩) 0 0:=by rfl) (hp:a.eval px = .slice A m c:=by rfl) (hd:o.dst=some N:=by exact rfl) (hg:o.guard=none:=by rfl):wpList Tryz.prog ops K (o::rest) a w:=by
 obtain⟨k,c1,w1,hr,hR,hb,hk,hkl⟩:=aeS (c:=c) (ty:=o.type) d ht hinfo hz eW fV hE hbg HR hKM hl
 have hrun:(execOp a.eval o).run Tryz.prog w = .ok (.value (.slice (some ⟨k,0,none⟩) ys.length c1)) w1:=by
  unfold execOp;simp only[ho,resolve,invoke,builtin,Sem.run_bind,Sem.run_pure,Result.andThen_ok,List.map_toArray,List.map_cons,List.map_nil,hs,hp,hr]
 refine Kd.yO hg hrun ?_;rw[hd];exact h k c1 w1 hk hkl hb (ann HS hE hx hxs hne hR hb hk)
end
section
variable {ops:Array Oper} {oi:Oper} {a:Act} {w w0:World} {K:Act→World→Prop} {Q:Exit→Act→World→Prop} {X:Nat→Prop} {bs:List (Nat × Array Value)} {Qb:World→Prop}
end
section
variable {md:Region.Mode} {ops:Array Oper} {Q:Exit→Act→World→Prop} {S:World→Prop} {ds:List Nat} {fuel:Nat} {l:Array Bool} {a:Act} {w:World}
def Up (md:Region.Mode) (ops:Array Oper) (Q:Exit→Act→World→Prop) (S:World→Prop) (ds:List Nat) (fuel:Nat) (l:Array Bool) (a:Act) (w:World) (i:Nat):Prop:=
 (Region.ready md ops l).contains i=true→wpOp Tryz.prog ops Q i (fun a' w'=>(i ∉ ds→S w→S w')∧ck Tryz.prog md ops Q S ds fuel (l.setIfInBounds i true) a' w') a w
end
section
variable {md:Region.Mode} {ops:Array Oper} {Q:Exit→Act→World→Prop} {S:World→Prop} {ds:List Nat} {oi:Oper} {v:Value} {fuel i m:Nat} {a a':Act} {w:World}
theorem sD {n:Tmp} {t:TypeId} {p:Operand} (hS:S w) (h:ck Tryz.prog md ops Q S ds fuel (mb (i+1) m) a' w) (hi:ops[i]? = some oi:=by exact rfl) (ho:oi.op = .load t p:=by rfl) (hN:oi.dst=some n:=by exact rfl) (hk:tB md ops ds (mb i (m+1)) (mb (i+1) m) i=true:=by decide +kernel) (hQ:∀c a w,Q (.panic c) (a.put oi.dst v) w→Q (.panic c) a w:=by exact fun _ _ _ h=>h)
 (hw:Region.wanted oi (yielded ops a.tmps)=true:=by rfl) (hv:∀w,S w→(execOp a.eval oi).run Tryz.prog w = .ok (.value v) w:=by intro w' hs_;repeat (obtain⟨s_,hs_⟩:=hs_);go_simp;with_reducible rfl) (ha:a.put (some n) v=a':=by simp only[Act.put,zA,zB,zC,dJ,gx];rfl) :
 ck Tryz.prog md ops Q S ds (fuel+1) (mb i (m+1)) a w:=vm _ hi hN hk hQ (Or.inl ⟨hw,hv⟩) hS ha h
end
end Go.Proofs.YtingkpnoiekliaaGreat.MZ
end
section
namespace Go.Proofs.YtingkpnoiekliaaGreat.MZ
open Go.RowKit Go.Proofs.YtingkpnoiekliaaGreatW.PrintWords Go.Proofs.YtingkpnoiekliaaGreatW.PrintLast Go.Proofs.YtingkpnoiekliaaGreatW.PrintMore Go.Proofs.YtingkpnoiekliaaGreat.MWords
set_option linter.unusedVariables false
set_option linter.unusedSimpArgs false
set_option maxHeartbeats 8000000 in
set_option maxRecDepth 100000 in
theorem Vz {w : World} {cs : Array Value} {d : Dk} {A : Option Addr} {c : Nat} {l : List aa} (hd : cO cs d w) (h0 : d.f0.length ≤ 1048576) (hr : Kd.C an w A l.length l) (hc : l.length ≤ c) (hl : l.length ≤ 1048576) (hz : ∀ e ∈ l, e.f0.size ≤ 9223372036854775807) : Calls Tryz.prog 40 #[.agg cs, .slice A l.length c] w (fun e w' => e = .returned (.bool (gZ d.f0 l)) ∧ Below w.heap.size w w') := by
  have HS := St.start w (fun _ => False)
  have h4 := hd.size
  have hu := Tryz.underlying89
  obtain ⟨r, er⟩ : ∃ r, gZ d.f0 l = r := ⟨_, rfl⟩
  rw [er]
  go_enter Tryz.func40, Tryz.ntmps40
  go_wp2_with (first | ((with_reducible refine aH (N := 2) rfl ?_); refine aT 2 cs 27 ?_; intro g2 hg w1 hx hb; replace HS := HS.box hg hx hb h4; clear hb hx hg))
  go_loopg [9] l.length (fun kq v9 w' => ∃ (i : Nat), v9 = .int .i64 (i : Int) ∧ Aside0 (kq + i = l.length) ∧ Aside0 (eT (na d.f0 l) (fun _ => false) (decide ((l.length : Int) ≤ 30)) i kq = r) ∧ St w (fun _ => False) [(g2, cs)] (fun _ => True) w')
  case atStart => exact ⟨0, rfl, ⟨rfl⟩, ⟨er⟩, HS⟩
  case round =>
    clear HS
    obtain ⟨i, rfl, hi, hR, HS⟩ := hrel
    cases gk with
    | zero =>
      have jn : decide ((i : Int) < (l.length : Int)) = false := decide_eq_false (by have := hi.1; omega)
      have q3 : ¬ i < l.length := by have := hi.1; omega
      have q4 := decide_eq_false q3
      have qN : decide ((l.length : Int) ≤ 30) = r := hR.1
      go_wp2
      go_ret
      exact ⟨rfl, HS.be⟩
    | succ k1 =>
      have hil : i < l.length := by have := hi.1; omega
      have nk : decide ((i : Int) < (l.length : Int)) = true := decide_eq_true (by omega)
      have q1 := eq_true (show (0 : Int) ≤ (i : Int) by omega)
      have q2 := eq_true (show (i : Int) < (l.length : Int) by omega)
      obtain ⟨ad, rfl, x0, x1⟩ := gi (Kd.aw hr HS.be) (i : Int) (by omega) (by omega)
      rw [Int.toNat_natCast] at x0 x1
      obtain ⟨e, he⟩ : ∃ e, aG l (i : Int) = e := ⟨_, rfl⟩
      have jn := hz _ (Lh hil)
      rw [he] at x0 x1 jn
      go_upto_region 4 with (first | ((with_reducible refine aH (N := 6) rfl ?_); refine aT 6 #[.string (⟨#[]⟩ : ByteArray), .int .i64 0] 89 ?_; intro g6 hg w1 hx hb; have QA := Nat.le_trans HS.be.size (Nat.le_of_eq hg.symm); have hn6 := HS.fresh hg; replace HS := HS.below hb; replace x0 := mX hb x0; replace x1 := mX hb x1; clear hb hg; obtain ⟨y0, y1, y2, y3⟩ := jX hx))
      have iu := HS.two (u0 := .string e.f0) (u1 := .int .i64 e.f1) hx QA hn6
      generalize ((w1.setCell ⟨g6, 0, none⟩ (.string e.f0)).setCell ⟨g6, 1, none⟩ (.int .i64 e.f1)) = w2 at iu ⊢
      clear x0 x1 y0 y1 y2 y3 hx HS
      obtain ⟨HS, hx⟩ := iu
      have hic : i ≤ c := by omega
      have hlt : (l.take i).length = i := by rw [List.length_take]; omega
      have hH : ∀ w1, Below w.heap.size w w1 → Calls Tryz.prog 39 #[.slice (some ad) i c, .int .i64 e.f1] w1 (fun e' w' => e' = .returned (.bool (named (l.take i) e.f1)) ∧ Below w1.heap.size w1 w') := fun w1 hb => by
        have h := Ou (Kd.Mp (Kd.aw hr hb) (m := i) (by omega)) (show (l.take i).length ≤ c by omega) (by omega) e.f1
        rw [hlt] at h
        exact h
      replace hlt := J hlt
      obtain ⟨p, hp⟩ : ∃ e, aG l ((i - 1 : Nat) : Int) = e := ⟨_, rfl⟩
      obtain ⟨v, v1⟩ : ∃ v, fv e.f0 = v := ⟨_, rfl⟩
      obtain ⟨bn, v2⟩ : ∃ v, decide (fo d.f0 e.f1 < 0) = v := ⟨_, rfl⟩
      obtain ⟨iv, c3⟩ : ∃ v, decide (0 < i) = v := ⟨_, rfl⟩
      have c4 : decide ((i : Int) > 0) = iv := (decide_eq_decide.mpr (by omega)).trans c3
      obtain ⟨ls, c5⟩ : ∃ v, Op.bytesLess p.f0.toList e.f0.toList = v := ⟨_, rfl⟩
      obtain ⟨nm, v5⟩ : ∃ v, named (l.take i) e.f1 = v := ⟨_, rfl⟩
      have hbd : na d.f0 l i = (!v || bn || (iv && !ls) || nm) := by unfold na; rw [he, v1, v2, hp, c3, c5, v5]
      replace hbd := J hbd; replace v1 := J v1; replace he := J he; replace hp := J hp; replace v5 := J v5
      have kx := J (And.intro (HS.bx _ (.head _)).2.2 (And.intro (mZ hx 0) (mZ hx 1)))
      cases v; rotate_left; cases bn; cases iv; cases nm; rotate_left 2
      have i1 : 0 < i := of_decide_eq_true c3
      obtain ⟨de, hde⟩ : ∃ z, wrap64 ((i : Int) - 1) = z := ⟨_, rfl⟩
      have mi : de = ((i - 1 : Nat) : Int) := by rw [← hde]; unfold wrap64; omega
      have q5 := eq_true (show (0 : Int) ≤ de by omega)
      have q6 := eq_true (show de < (l.length : Int) by omega)
      have ti := J (And.intro kx.1.1 (And.intro (Vg (Kd.aw hr HS.be) (show i - 1 < _ by omega) de mi hp.1) kx.1.2))
      replace mi := J mi
      have auf : (IntKind.i64.wrap ((i : Int) - 1)) = de := (dJ _).trans hde
      cases ls; rotate_left; cases nm; rotate_right
      iterate 3 (refine fk (n := 34) (S := fun W => W.heap[g2]? = some (.cells cs 27 (0, 0)) ∧ W.cell? (ad.add (de.toNat * 2)) = some (.string p.f0) ∧ W.cell? ⟨g6, 0, none⟩ = some (.string e.f0) ∧ W.cell? ⟨g6, 1, none⟩ = some (.int .i64 e.f1)) (ds := []) (mb 0 34) (by kernel_rfl) rfl rfl ti.1 (fun hh => ?_); rotate_left)
      iterate 4 (refine fk (n := 34) (S := fun W => W.heap[g2]? = some (.cells cs 27 (0, 0)) ∧ W.cell? ⟨g6, 0, none⟩ = some (.string e.f0) ∧ W.cell? ⟨g6, 1, none⟩ = some (.int .i64 e.f1)) (ds := []) (mb 0 34) (by kernel_rfl) rfl rfl kx.1 (fun hh => ?_); rotate_left)
      all_goals
        replace HS := HS.drew
        (repeat (first | refine sU ?_ | refine sL hh (fun _ h => h.1) h4 ?_ | refine sD hh ?_ | (refine sC Tryz.func26 (Es jn) ?_; rintro e' w5 ⟨rfl, hb⟩; replace HS := HS.below hb; rw [v1.1]; refine ⟨_, rfl, (by first | exact ⟨bg hh.1 hb, mX hb hh.2.1, mX hb hh.2.2⟩ | exact ⟨bg hh.1 hb, mX hb hh.2.1, mX hb hh.2.2.1, mX hb hh.2.2.2⟩), fun hh => rN ?_⟩; clear hb) | (refine sC Tryz.func35 (afj (dO hd HS.be) h0 _) ?_; rintro e' w5 ⟨rfl, hb⟩; replace HS := HS.below hb; refine ⟨_, rfl, (by first | exact ⟨bg hh.1 hb, mX hb hh.2.1, mX hb hh.2.2⟩ | exact ⟨bg hh.1 hb, mX hb hh.2.1, mX hb hh.2.2.1, mX hb hh.2.2.2⟩), fun hh => rN ?_⟩; clear hb) | (refine sC Tryz.func39 (hH _ HS.be) ?_; rintro e' w5 ⟨rfl, hb⟩; replace HS := HS.below hb; rw [v5.1]; refine ⟨_, rfl, (by first | exact ⟨bg hh.1 hb, mX hb hh.2.1, mX hb hh.2.2⟩ | exact ⟨bg hh.1 hb, mX hb hh.2.1, mX hb hh.2.2.1, mX hb hh.2.2.2⟩), fun hh => rN ?_⟩; clear hb) | refine sP ?_)); refine fA (by decide +kernel) ?_; clear hh
        first
        | (have hbad : na d.f0 l i = true := hbd.1.trans (by simp)
           obtain rfl : false = r := (BS hbad).symm.trans hR.1
           go_wp2
           go_ret
           exact ⟨rfl, HS.be⟩)
        | (have hbad : na d.f0 l i = false := hbd.1
           have qN := J ((EK hbad).symm.trans hR.1)
           go_wp2
           go_roundg k1
           case measure => omega
           case rel => exact ⟨i + 1, congrArg (Value.int .i64) (by first | (unfold wrap64; omega) | omega), ⟨by have := hi.1; omega⟩, qN, HS⟩)
end Go.Proofs.YtingkpnoiekliaaGreat.MZ
end
