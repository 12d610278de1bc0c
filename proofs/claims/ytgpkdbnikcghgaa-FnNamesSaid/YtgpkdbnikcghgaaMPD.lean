/- What the functions over disks answer, in plain lists: for the walks by hand. -/
import Derived.Test.YtgpkdbnikcghgaaMDx11
import Derived.Test.YtgpkdbnikcghgaaMDx12
import Derived.Test.YtgpkdbnikcghgaaMDx13
import Derived.Test.YtgpkdbnikcghgaaMDx20
import Derived.Test.YtgpkdbnikcghgaaMDx21
import Derived.Test.YtgpkdbnikcghgaaMDx22
import Derived.Test.YtgpkdbnikcghgaaMDx25
import Derived.Test.YtgpkdbnikcghgaaMDx26
import Derived.Test.YtgpkdbnikcghgaaMDx27
import Derived.Test.YtgpkdbnikcghgaaMDx28
import Derived.Test.YtgpkdbnikcghgaaMDx31
import Derived.Test.YtgpkdbnikcghgaaMDx40
import Derived.Test.YtgpkdbnikcghgaaMDx41
import Derived.Test.YtgpkdbnikcghgaaMDx42
import Derived.Test.YtgpkdbnikcghgaaMDx43
import Derived.Test.YtgpkdbnikcghgaaMDx46
import Derived.Test.YtgpkdbnikcghgaaMDx52
import Derived.Test.YtgpkdbnikcghgaaMDx53
import Derived.Sort.AssemblyPlain
set_option linter.unusedVariables false
set_option linter.unusedSimpArgs false
namespace Go.Proofs.Ytgpkdbnikcghgaa.MPD
open Go.RowKit Go.Proofs.Ytgpkdbnikcghgaa.MD Go.Proofs.YtgpkdbnikcghgaaW.PrintWords Go.Proofs.YtgpkdbnikcghgaaW.PrintLast Go.Proofs.YtgpkdbnikcghgaaW.PrintMore
theorem pQ {i:Int} (h0:-9223372036854775808≤i) (h1:i≤9223372036854775807):wrap64 i=i:=by unfold wrap64;omega
theorem gO {i n:Nat} (h:i<n) (hn:n≤9223372036854775807):wrap64 ((i:Int)+1)=((i+1:Nat):Int):=by unfold wrap64;omega
theorem apH {α:Type} (l:List α) (i:Nat) (x:α) (h:i<l.length):(l.set i x).take (i+1)=l.take i++[x]:=by
 rw[List.take_succ_eq_append_getElem (by simpa using h),List.getElem_set_self,List.take_set_of_le (Nat.le_refl _)]
theorem apf {ρ : Type} (g : Nat → Nat → Option ρ) (n : Nat) (r : ρ) (hs : ∀ i, i < n → Ev (g (i + 1)) r → Ev (g i) r) (he : Ev (g n) r) : Ev (g 0) r := by
  have key : ∀ (d i : Nat), i + d = n → Ev (g i) r := by
    intro d
    induction d with
    | zero => intro i hi; have : i = n := by omega
              subst this; exact he
    | succ d ih => intro i hi; exact hs i (by omega) (ih (i + 1) (by omega))
  exact key n 0 (by omega)
theorem acx {α β:Type} (l:List α) (f:α→β) (d:α):(List.range l.length).map (fun i=>f (l.getD i d))=l.map f:=by
 apply List.ext_getElem?;intro i;rw[List.getElem?_map,List.getElem?_map];by_cases h:i<l.length
 ·simp[h,List.getD_eq_getElem?_getD]
 ·rw[List.getElem?_eq_none (by simp;omega),List.getElem?_eq_none (by omega)];rfl
theorem Ev.bind' {α β:Type} {g:Nat→Option α} {f:Nat→α→Option β} {a:α} {r:β} (h:Ev g a) (k:Ev (fun n=>f n a) r):Ev (fun n=>(g n).bind (f n)) r:=Ev.bind h k
theorem Ev.cond {α:Type} {g f:Nat→Option α} {r:α} (h:∃K,∀k,K≤k→g k=f k) (k:Ev f r):Ev g r:=by
 obtain⟨K,h⟩:=h;obtain⟨K',k⟩:=k;exact⟨K+K',fun n hn=>by rw[h n (by omega)];exact k n (by omega)⟩
theorem Ev.round {α:Type} {g f:Nat→Option α} {r:α} (h:∃K,∀k,K≤k→g (k+1)=f k) (k:Ev f r):Ev g r:=by
 obtain⟨K,h⟩:=h;obtain⟨K',k⟩:=k
 exact⟨K+K'+1,fun n hn=>by
  obtain⟨m,rfl⟩:∃m,n=m+1:=⟨n-1,by omega⟩;rw[h m (by omega)];exact k m (by omega)⟩
theorem Ev.ends {α:Type} {g:Nat→Option α} {r:α} (h:∀k,g (k+1)=some r):Ev g r:=⟨1,fun n hn=>by
 obtain⟨m,rfl⟩:∃m,n=m+1:=⟨n-1,by omega⟩;exact h m⟩
theorem Ev.all {α:Type} {g:Nat→Option α} {r:α} (h:∀k,g k=some r):Ev g r:=⟨0,fun n _=>h n⟩
theorem YC {α:Type} {l:List α} {i:Nat} {z:α} (h:i<l.length):l.getD i z ∈ l:=by
 rw[List.getD_eq_getElem?_getD,List.getElem?_eq_getElem h];exact List.getElem_mem h
def hO {ρ:Type} (p:Nat→Bool) (stop:Nat→ρ) (e:ρ):Nat→Nat→ρ
 |_,0=>e
 |i,d+1=>if p i=true then stop i else hO p stop e (i+1) d
theorem sh {ρ:Type} (g:Nat→Nat→Option ρ) (n:Nat) (p:Nat→Bool) (stop:Nat→ρ) (e:ρ)
 (hs:∀(i:Nat) (r:ρ),i<n→p i=false→Ev (g (i+1)) r→Ev (g i) r) (ht:∀i,i<n→p i=true→Ev (g i) (stop i)) (he:Ev (g n) e):Ev (g 0) (hO p stop e 0 n):=by
 have key:∀(d i:Nat),i+d=n→Ev (g i) (hO p stop e i d):=by
  intro d
  induction d with
  |zero=>
   intro i hi;have:i=n:=by omega
   subst this;exact he
  |succ d ih=>
   intro i hi;simp only[hO];by_cases h:p i=true
   ·rw[if_pos h];exact ht i (by omega) h
   ·rw[if_neg h];exact hs i _ (by omega) (by simpa using h) (ih (i+1) (by omega))
 exact key n 0 (by omega)
theorem Yv {ρ:Type} {p q:Nat→Bool} {stop:Nat→ρ} {e:ρ}:∀(d i:Nat),(∀j,i≤j→j<i+d→p j=q j)→hO p stop e i d=hO q stop e i d
 |0,_,_=>rfl
 |d+1,i,h=>by
  simp only[hO];rw[h i (by omega) (by omega),Yv d (i+1) (fun j h1 h2=>h j (by omega) (by omega))]
theorem vO {e:Bool} {p:Nat→Bool}:∀(d i:Nat),hO p (fun _=>false) e i d=(!hO p (fun _=>true) false i d&&e)
 |0,_=>by simp[hO]
 |d+1,i=>by
  simp only[hO];by_cases h:p i=true
  ·rw[if_pos h,if_pos h];rfl
  ·rw[if_neg h,if_neg h];exact vO d (i+1)
theorem F0 {p:Nat→Bool}:∀(d i:Nat),hO p (fun _=>true) false i d=false→∀j,i≤j→j<i+d→p j=false
 |0,i,_,j,h1,h2=>by omega
 |d+1,i,h,j,h1,h2=>by
  simp only[hO]at h;by_cases hp:p i=true
  ·rw[if_pos hp]at h;cases h
  ·rw[if_neg hp]at h;by_cases hj:j=i
   ·subst hj;simpa using hp
   ·exact F0 d (i+1) h j (by omega) (by omega)
theorem KG {p:Nat→Bool}:∀(d i:Nat),hO p (fun _=>true) false i d=true→∃j,i≤j∧j<i+d∧p j=true
 |0,_,h=>by simp[hO]at h
 |d+1,i,h=>by
  simp only[hO]at h;by_cases hp:p i=true
  ·exact⟨i,by omega,by omega,hp⟩
  ·rw[if_neg hp]at h;obtain⟨j,h1,h2,h3⟩:=KG d (i+1) h;exact⟨j,by omega,by omega,h3⟩
theorem Mw {l:List ah} {i:Nat} (h:i<l.length):av l (i:Int) ∈ l:=YC h
theorem vX {l:List aj} {i:Nat} (h:i<l.length):aa l (i:Int) ∈ l:=YC h
theorem aoR (l:List ah) (i j:Nat) (h:j<i):av (l.take i) (j:Int)=av l (j:Int):=by
 simp only[av,Int.toNat_natCast];rw[List.getD_eq_getElem?_getD,List.getD_eq_getElem?_getD,List.getElem?_take,if_pos h]
def named (l:List ah) (id:Int):Bool:=hO (fun i=>decide ((av l (i:Int)).f1=id)) (fun _=>true) false 0 l.length
theorem IB (l:List ah) (h:l.length≤1048576) (id:Int):Ev (fun k=>eI.f k l id) (named l id):=by
 refine Ev.congr (fun k=>?_) (sh (fun i k=>eI.l0 k l id (i:Int)) l.length _ _ _ (fun i r hi hp h=>?_) (fun i hi hp=>?_) ?_)
 ·simp only[eI.f];rfl
 ·refine Ev.step (fun k=>?_) h;simp only[eI.l0];rw[if_pos (by omega),if_pos (by omega),if_neg (by simpa using hp),gO (n:=l.length) hi (by omega)]
 ·refine Ev.ends (fun k=>?_);simp only[eI.l0];rw[if_pos (by omega),if_pos (by omega),if_pos (by simpa using hp)]
 ·refine Ev.ends (fun k=>?_);simp only[eI.l0];rw[if_neg (by omega)]
theorem xn (l:List ah) (h:l.length≤1048576) (id:Int):Ev (fun k=>dT.f k l id) (named l id):=by
 refine Ev.congr (fun k=>?_) (sh (fun i k=>dT.l0 k id l (l.length:Int) (i:Int)) l.length _ _ _ (fun i r hi hp h=>?_) (fun i hi hp=>?_) ?_)
 ·simp only[dT.f];rfl
 ·refine Ev.step (fun k=>?_) h;simp only[dT.l0];rw[if_pos (by omega),if_pos (by omega),if_pos (by omega),if_neg (by simpa using hp),gO (n:=l.length) hi (by omega)]
 ·refine Ev.ends (fun k=>?_);simp only[dT.l0];rw[if_pos (by omega),if_pos (by omega),if_pos (by omega),if_pos (by simpa using hp)]
 ·refine Ev.ends (fun k=>?_);simp only[dT.l0];rw[if_neg (by omega)]
theorem Tg {l:List ah} {id:Int} (h:named l id=true):id ∈ l.map (fun e=>e.f1):=by
 obtain⟨j,_,h2,h3⟩:=KG _ _ h;simp only[decide_eq_true_eq]at h3;rw[←h3];exact List.mem_map.2 ⟨_,Mw (by omega),rfl⟩
def js (l:List aj) (id:Int):Int:=hO (fun i=>decide ((aa l (i:Int)).f0=id)) (fun i=>(i:Int)) (-1) 0 l.length
theorem Ta (l:List aj) (b c:List ah) (n:Int) (h:l.length≤1048576) (id:Int):Ev (fun k=>ji.f k l b c n id) (js l id):=by
 refine Ev.congr (fun k=>?_) (sh (fun i k=>ji.l0 k id (i:Int) l b c n) l.length _ _ _ (fun i r hi hp h=>?_) (fun i hi hp=>?_) ?_)
 ·simp only[ji.f];rfl
 ·refine Ev.step (fun k=>?_) h;simp only[ji.l0];rw[if_pos (by omega),if_pos (by omega),if_neg (by simpa using hp),gO (n:=l.length) hi (by omega)]
 ·refine Ev.ends (fun k=>?_);simp only[ji.l0];rw[if_pos (by omega),if_pos (by omega),if_pos (by simpa using hp)]
 ·refine Ev.ends (fun k=>?_);simp only[ji.l0];rw[if_neg (by omega)]
theorem ab8 (l:List aj) (b c:List ah) (n:Int) (h:l.length≤1048576) (id:Int):Ev (fun k=>kn.f k l b c n id) (js l id):=by
 refine Ev.congr (fun k=>?_) (sh (fun i k=>kn.l0 k id l (l.length:Int) (i:Int)) l.length _ _ _ (fun i r hi hp h=>?_) (fun i hi hp=>?_) ?_)
 ·simp only[kn.f];rfl
 ·refine Ev.step (fun k=>?_) h;simp only[kn.l0];rw[if_pos (by omega),if_pos (by omega),if_pos (by omega),if_neg (by simpa using hp),gO (n:=l.length) hi (by omega)]
 ·refine Ev.ends (fun k=>?_);simp only[kn.l0];rw[if_pos (by omega),if_pos (by omega),if_pos (by omega),if_pos (by simpa using hp)]
 ·refine Ev.ends (fun k=>?_);simp only[kn.l0];rw[if_neg (by omega)]
theorem ahp (s:ByteArray) (i:Int):0≤bt s i∧bt s i≤255:=by
 unfold bt;split
 ·have:=UInt8.toNat_lt (s[i.toNat]'(by assumption));omega
 ·omega
def AA (c:Int):Bool:=decide (¬((97≤c∧c≤122)∨(48≤c∧c≤57)∨c=45∨c=46))
def ja (s:ByteArray):Bool:=decide (1≤(s.size:Int)∧(s.size:Int)≤12)&&hO (fun i=>AA (bt s (i:Int))) (fun _=>false) true 0 s.size
theorem ab4 (k:Nat) (s:ByteArray) (i:Nat) (hi:i<s.size):fV.l0 (k+1) s (i:Int)=fV.j1 k s (i:Int) (AA (bt s (i:Int))):=by
 simp only[fV.l0];rw[if_pos (by omega),if_pos (by omega)];generalize bt s (i:Int)=c
 unfold AA
 (repeat' split)<;>(congr 1;rw[Bool.eq_iff_iff];simp;omega)
theorem ab3 (s:ByteArray) (h:s.size≤9223372036854775807):Ev (fun k=>fV.f k s) (ja s):=by
 have hn:ja s=hO (fun i=>AA (bt s (i:Int))) (fun _=>false) (decide (1≤(s.size:Int)∧(s.size:Int)≤12)) 0 s.size:=by
  unfold ja;rw[vO,vO,Bool.and_true,Bool.and_comm]
 rw[hn];refine Ev.congr (fun k=>?_) (sh (fun i k=>fV.l0 k s (i:Int)) s.size _ _ _ (fun i r hi hp h=>?_) (fun i hi hp=>?_) ?_)
 ·simp only[fV.f];rfl
 ·refine Ev.step (fun k=>ab4 k s i hi) (Ev.step (f:=fun k=>fV.l0 k s ((i+1:Nat):Int)) (fun k=>?_) h);simp only[fV.j1];rw[if_neg (by simpa using hp),gO (n:=s.size) hi (by omega)]
 ·refine Ev.step (fun k=>ab4 k s i hi) (Ev.ends (fun k=>?_));simp only[fV.j1];rw[if_pos (by simpa using hp)]
 ·refine Ev.ends (fun k=>?_);simp only[fV.l0,jZ.f];rw[if_neg (by omega)];split<;>(simp only[Option.bind_some];congr 1;rw[Bool.eq_iff_iff];simp;omega)
theorem acU (k:Nat) (s:ByteArray) (i:Nat) (hi:i<s.size):eW.l0 (k+1) s (i:Int)=eW.j1 k s (i:Int) (AA (bt s (i:Int))):=by
 have hb:=ahp s (i:Int);have hw:wrap64 (bt s (i:Int))=bt s (i:Int):=pQ (by omega) (by omega);simp only[eW.l0,fc.f,hw];rw[if_pos (by omega),if_pos (by omega)];generalize bt s (i:Int)=c
 unfold AA;by_cases a1:c≥97<;>by_cases a2:c≤122<;>by_cases a3:c≥48<;>by_cases a4:c≤57<;>by_cases a5:c=45<;>simp only[a1,a2,a3,a4,a5,if_true,if_false,Option.bind_some,decide_true,decide_false,Bool.false_eq_true,reduceIte]<;>first|rfl|(congr 1;done)|(congr 1;rw[Bool.eq_iff_iff];simp;done)|(congr 1;rw[Bool.eq_iff_iff];simp;omega)
theorem Uk (s:ByteArray) (h:s.size≤9223372036854775807):Ev (fun k=>eW.f k s) (ja s):=by
 have hl:Ev (fun k=>eW.l0 k s 0) (hO (fun i=>AA (bt s (i:Int))) (fun _=>false) true 0 s.size):=by
  refine sh (fun i k=>eW.l0 k s (i:Int)) s.size _ _ _ (fun i r hi hp h=>?_) (fun i hi hp=>?_) ?_
  ·refine Ev.step (fun k=>acU k s i hi) (Ev.step (f:=fun k=>eW.l0 k s ((i+1:Nat):Int)) (fun k=>?_) h);simp only[eW.j1];rw[if_neg (by simpa using hp),gO (n:=s.size) hi (by omega)]
  ·refine Ev.step (fun k=>acU k s i hi) (Ev.ends (fun k=>?_));simp only[eW.j1];rw[if_pos (by simpa using hp)]
  ·refine Ev.ends (fun k=>?_);simp only[eW.l0];rw[if_neg (by omega)]
 unfold ja;by_cases h1:1≤(s.size:Int)∧(s.size:Int)≤12
 ·rw[decide_eq_true h1,Bool.true_and];refine Ev.congr (fun k=>?_) hl;simp only[eW.f,fc.f];rw[if_pos (by omega),Option.bind_some,if_pos (by simpa using h1.2)]
 ·rw[decide_eq_false h1,Bool.false_and];refine Ev.all (fun k=>?_);simp only[eW.f,fc.f];split
  ·simp only[Option.bind_some];rw[if_neg (by simp;omega)]
  ·simp
def xi (ds:List aj) (l:List ah) (i:Nat):Bool:=
 !ja (av l (i:Int)).f0 || decide (js ds (av l (i:Int)).f1<0) || (decide (0<i) && !Op.bytesLess (av l ((i-1:Nat):Int)).f0.toList (av l (i:Int)).f0.toList) || named (l.take i) (av l (i:Int)).f1
def jV (ds:List aj) (l:List ah):Bool:=hO (xi ds l) (fun _=>false) (decide ((l.length:Int)≤30)) 0 l.length
theorem Ng {i n:Nat} (h:i<n) (hn:n≤9223372036854775807) (h0:0<i):wrap64 ((i:Int)-1)=((i-1:Nat):Int):=by unfold wrap64;omega
theorem ab1 (ds:List aj) (b c:List ah) (n:Int) (l:List ah) (h0:ds.length≤1048576) (h:l.length≤1048576) (hz:∀e ∈ l,e.f0.size≤9223372036854775807):Ev (fun k=>di.f k ds b c n l) (jV ds l):=by
 have body:∀i,i<l.length→∃K,∀k,K≤k→di.l0 (k+1) l l (l.length:Int) (i:Int) ds b c n=di.j1 k l l (l.length:Int) (i:Int) (xi ds l i) ds b c n:=by
  intro i hi;obtain⟨K1,e1⟩:=ab3 (av l (i:Int)).f0 (hz _ (Mw hi));obtain⟨K2,e2⟩:=ab8 ds b c n h0 (av l (i:Int)).f1;obtain⟨K3,e3⟩:=xn (l.take i) (by rw[List.length_take];omega) (av l (i:Int)).f1;dsimp only at e1 e2 e3;refine⟨K1+K2+K3,fun k hk=>?_⟩;simp only[di.l0];rw[if_pos (by omega),if_pos (by omega),if_pos (by omega),e1 k (by omega),Option.bind_some];unfold xi;cases hn:ja (av l (i:Int)).f0
  ·rw[if_neg (by decide)];rfl
  rw[if_pos rfl,e2 k (by omega),Option.bind_some];by_cases xB:js ds (av l (i:Int)).f1<0
  ·rw[if_pos xB];simp[xB]
  rw[if_neg xB,decide_eq_false xB];by_cases hp:(i:Int)>0
  ·have hp':0<i:=by omega
   rw[if_pos hp,Ng hi (by omega) hp',if_pos (by omega),if_pos (by omega),decide_eq_true hp'];cases hb:Op.bytesLess (av l ((i-1:Nat):Int)).f0.toList (av l (i:Int)).f0.toList
   ·rw[if_neg (by decide)];rfl
   ·rw[if_pos rfl,if_pos (by omega),Int.toNat_natCast,e3 k (by omega),Option.bind_some];rfl
  ·have hp':¬0<i:=by omega
   rw[if_neg hp,if_pos (by omega),Int.toNat_natCast,e3 k (by omega),Option.bind_some,decide_eq_false hp'];rfl
 refine Ev.congr (fun k=>?_) (sh (fun i k=>di.l0 k l l (l.length:Int) (i:Int) ds b c n) l.length _ _ _ (fun i r hi hp h=>?_) (fun i hi hp=>?_) ?_)
 ·simp only[di.f];rfl
 ·refine Ev.round (body i hi) (Ev.step (f:=fun k=>di.l0 k l l (l.length:Int) ((i+1:Nat):Int) ds b c n) (fun k=>?_) h);simp only[di.j1];rw[if_neg (by simpa using hp),gO (n:=l.length) hi (by omega)]
 ·refine Ev.round (body i hi) (Ev.ends (fun k=>?_));simp only[di.j1];rw[if_pos (by simpa using hp)]
 ·refine Ev.ends (fun k=>?_);simp only[di.l0];rw[if_neg (by omega)]
def Dc (ds:List aj) (l:List ah) (i:Nat):Bool:=
 !ja (av l (i:Int)).f0 || decide (js ds (av l (i:Int)).f1<0) || (decide (0<i) && !Op.bytesLess (av l ((i-1:Nat):Int)).f0.toList (av l (i:Int)).f0.toList)
theorem acn (l:List ah) (i:Nat) (hi:i≤l.length) (id:Int):named (l.take i) id=hO (fun j=>decide ((av l (j:Int)).f1=id)) (fun _=>true) false 0 i:=by
 unfold named;rw[List.length_take,Nat.min_eq_left hi];refine Yv _ _ (fun j _ h2=>?_);rw[aoR l i j (by omega)]
theorem acT (ds:List aj) (b c:List ah) (n:Int) (l:List ah) (h0:ds.length≤1048576) (h:l.length≤1048576) (hz:∀e ∈ l,e.f0.size≤9223372036854775807):Ev (fun k=>cp.f k ds b c n l) (jV ds l):=by
 have body:∀i,i<l.length→∃K,∀k,K≤k→cp.l0 (k+1) l (i:Int) ds b c n=cp.j1 k l (i:Int) (Dc ds l i) ds b c n:=by
  intro i hi;obtain⟨K1,e1⟩:=Uk (av l (i:Int)).f0 (hz _ (Mw hi));obtain⟨K2,e2⟩:=Ta ds b c n h0 (av l (i:Int)).f1;dsimp only at e1 e2;refine⟨K1+K2,fun k hk=>?_⟩;simp only[cp.l0];rw[if_pos (by omega),if_pos (by omega),e1 k (by omega),Option.bind_some];unfold Dc;cases hn:ja (av l (i:Int)).f0
  ·rw[if_neg (by decide)];rfl
  rw[if_pos rfl,e2 k (by omega),Option.bind_some];by_cases xB:js ds (av l (i:Int)).f1<0
  ·rw[if_pos xB];simp[xB]
  rw[if_neg xB,decide_eq_false xB];by_cases hp:(i:Int)>0
  ·have hp':0<i:=by omega
   rw[if_pos hp,Ng hi (by omega) hp',if_pos (by omega),if_pos (by omega),decide_eq_true hp'];rfl
  ·have hp':¬0<i:=by omega
   rw[if_neg hp,decide_eq_false hp'];rfl
 have inner:∀i,i<l.length→∀r,Ev (fun k=>cp.l0 k l ((i+1:Nat):Int) ds b c n) r→Ev (fun k=>cp.l1 k l (i:Int) 0 ds b c n) (hO (fun j=>decide ((av l (j:Int)).f1=(av l (i:Int)).f1)) (fun _=>false) r 0 i):=by
  intro i hi r hr;refine sh (fun j k=>cp.l1 k l (i:Int) (j:Int) ds b c n) i _ _ _ (fun j r hj hp h=>?_) (fun j hj hp=>?_) ?_
  ·refine Ev.step (fun k=>?_) h;simp only[cp.l1];rw[if_pos (by omega),if_pos (by omega),if_pos (by omega),if_pos (by omega),if_pos (by omega),if_neg (by simpa using hp),gO (n:=i) hj (by omega)]
  ·refine Ev.ends (fun k=>?_);simp only[cp.l1];rw[if_pos (by omega),if_pos (by omega),if_pos (by omega),if_pos (by omega),if_pos (by omega),if_pos (by simpa using hp)]
  ·refine Ev.step (fun k=>?_) hr;simp only[cp.l1];rw[if_neg (by omega),gO (n:=l.length) hi (by omega)]
 refine Ev.congr (fun k=>?_) (sh (fun i k=>cp.l0 k l (i:Int) ds b c n) l.length _ _ _ (fun i r hi hp h=>?_) (fun i hi hp=>?_) ?_)
 ·simp only[cp.f];rfl
 ·have hq:Dc ds l i=false∧named (l.take i) (av l (i:Int)).f1=false:=by
   unfold xi at hp;simpa[Dc] using hp
  have h2:=inner i hi r h;rw[vO,←acn l i (by omega),hq.2]at h2;refine Ev.round (body i hi) (Ev.step (f:=fun k=>cp.l1 k l (i:Int) 0 ds b c n) (fun k=>?_) (by simpa using h2));simp only[cp.j1];rw[if_neg (by rw[hq.1];decide)]
 ·refine Ev.round (body i hi) ?_;cases hb:Dc ds l i
  ·have hnm:named (l.take i) (av l (i:Int)).f1=true:=by
    have hp':(Dc ds l i || named (l.take i) (av l (i:Int)).f1)=true:=hp;rw[hb]at hp';simpa using hp'
   have hin:Ev (fun k=>cp.l1 k l (i:Int) 0 ds b c n) false:=by
    rw[acn l i (by omega)]at hnm;obtain⟨j0,_,oc,hj3⟩:=KG _ _ hnm
    have hfin:∀(d j:Nat),j+d=j0+1→(∀m,j≤m→m<j+d→m<i)→Ev (fun k=>cp.l1 k l (i:Int) (j:Int) ds b c n) false∨d=0:=by
     intro d
     induction d with
     |zero=>intro j _ _;exact Or.inr rfl
     |succ d ih=>
      intro j hj hm;left;by_cases Dw:(av l (j:Int)).f1=(av l (i:Int)).f1
      ·refine Ev.ends (fun k=>?_);simp only[cp.l1];rw[if_pos (by have:=hm j (by omega) (by omega);omega),if_pos (by omega),if_pos (by have:=hm j (by omega) (by omega);omega),if_pos (by omega),if_pos (by omega),if_pos Dw]
      ·rcases ih (j+1) (by omega) (fun m h1 h2=>hm m (by omega) (by omega)) with h|h
       ·refine Ev.step (fun k=>?_) h;simp only[cp.l1];rw[if_pos (by have:=hm j (by omega) (by omega);omega),if_pos (by omega),if_pos (by have:=hm j (by omega) (by omega);omega),if_pos (by omega),if_pos (by omega),if_neg Dw,gO (n:=i) (hm j (by omega) (by omega)) (by omega)]
       ·have:j=j0:=by omega
        subst this;exact absurd (by simpa using hj3) Dw
    rcases hfin (j0+1) 0 (by omega) (fun m _ h2=>by omega) with h|h
    ·exact h
    ·omega
   refine Ev.step (fun k=>?_) hin;simp only[cp.j1];rw[if_neg (by decide)]
  ·refine Ev.ends (fun k=>?_);simp only[cp.j1]
   first|rw[if_pos rfl]|rw[if_pos trivial]
 ·refine Ev.ends (fun k=>?_);simp only[cp.l0];rw[if_neg (by omega)]
def oQ (ds:List aj) (ns ss:List ah) (nx:Int) (i:Nat):Bool:=
 !decide (1≤(aa ds (i:Int)).f0∧(aa ds (i:Int)).f0≤wrap64 (nx-1)) || !decide (0≤(aa ds (i:Int)).f2∧(aa ds (i:Int)).f2≤((aa ds (i:Int)).f1.length:Int)) || (decide (0<i)&&decide ((aa ds ((i-1:Nat):Int)).f0≥(aa ds (i:Int)).f0)) || (!named ns (aa ds (i:Int)).f0 && !named ss (aa ds (i:Int)).f0)
def l7 (ds:List aj):Nat→Int
 |0=>0
 |i+1=>l7 ds i+((aa ds (i:Int)).f1.length:Int)
theorem TG (ds:List aj) (hd:∀x ∈ ds,x.f1.length≤4194304):∀i,i≤ds.length→0≤l7 ds i∧l7 ds i≤(i:Int)*4194304
 |0,_=>by simp[l7]
 |i+1,h=>by
  have h1:=TG ds hd i (by omega);have h2:=hd _ (vX (show i<ds.length by omega));simp only[l7];omega
def td (ds:List aj) (ns ss:List ah) (nx:Int):Bool:=!hO (oQ ds ns ss nx) (fun _=>true) false 0 ds.length
def b8 (ds:List aj) (ns ss:List ah) (nx:Int):Bool:=
 decide (1≤nx∧nx≤1000000)&&(td ds ns ss nx&&(decide (l7 ds ds.length≤60000)&&(jV ds ns&&jV ds ss)))
theorem DB (a b c:Int):(if a≥b then (some (decide (a≤c))) else (some false))=some (decide (b≤a∧a≤c)):=by
 split
 ·congr 1;rw[Bool.eq_iff_iff];simp;omega
 ·congr 1;rw[Bool.eq_iff_iff];simp;omega
theorem L3 (ds:List aj) (ns ss:List ah) (nx:Int) (h0:ds.length≤1048576) (hd:∀x ∈ ds,x.f1.length≤4194304) (h1:ns.length≤1048576) (h2:ss.length≤1048576) (z1:∀e ∈ ns,e.f0.size≤9223372036854775807) (z2:∀e ∈ ss,e.f0.size≤9223372036854775807):Ev (fun k=>bV.f k ds ns ss nx) (b8 ds ns ss nx):=by
 have body:∀i,i<ds.length→∀s,∃K,∀k,K≤k→bV.l0 (k+1) s ds (ds.length:Int) (i:Int) ds ns ss nx=bV.j1 k s ds (ds.length:Int) (i:Int) (oQ ds ns ss nx i) ds ns ss nx (aa ds (i:Int)).f0 (aa ds (i:Int)).f1 (aa ds (i:Int)).f2:=by
  intro i hi s;obtain⟨K1,e1⟩:=xn ns h1 (aa ds (i:Int)).f0;obtain⟨K2,e2⟩:=xn ss h2 (aa ds (i:Int)).f0;dsimp only at e1 e2;refine⟨K1+K2,fun k hk=>?_⟩;simp only[bV.l0,jZ.f,DB];rw[if_pos (by omega),if_pos (by omega),if_pos (by omega),Option.bind_some];unfold oQ;by_cases c1:1≤(aa ds (i:Int)).f0∧(aa ds (i:Int)).f0≤wrap64 (nx-1)
  case neg=>rw[decide_eq_false c1,if_neg (by decide)];rfl
  rw[decide_eq_true c1,if_pos rfl,Option.bind_some];by_cases c2:0≤(aa ds (i:Int)).f2∧(aa ds (i:Int)).f2≤((aa ds (i:Int)).f1.length:Int)
  case neg=>rw[decide_eq_false c2,if_neg (by decide)];rfl
  rw[decide_eq_true c2,if_pos rfl];by_cases hp:(i:Int)>0
  ·have hp':0<i:=by omega
   rw[if_pos hp,Ng hi (by omega) hp',if_pos (by omega),if_pos (by omega),decide_eq_true hp'];by_cases c3:(aa ds ((i-1:Nat):Int)).f0≥(aa ds (i:Int)).f0
   ·rw[if_pos c3,decide_eq_true c3];rfl
   rw[if_neg c3,decide_eq_false c3,e1 k (by omega),Option.bind_some];cases hn:named ns (aa ds (i:Int)).f0
   ·rw[if_neg (by decide),e2 k (by omega),Option.bind_some];rfl
   ·rw[if_pos rfl];rfl
  ·have hp':¬0<i:=by omega
   rw[if_neg hp,decide_eq_false hp',e1 k (by omega),Option.bind_some];cases hn:named ns (aa ds (i:Int)).f0
   ·rw[if_neg (by decide),e2 k (by omega),Option.bind_some];rfl
   ·rw[if_pos rfl];rfl
 have hv:b8 ds ns ss nx=hO (oQ ds ns ss nx) (fun _=>false) (decide (1≤nx∧nx≤1000000)&&(decide (l7 ds ds.length≤60000)&&(jV ds ns&&jV ds ss))) 0 ds.length:=by
  rw[vO];unfold b8 td;cases decide (1≤nx∧nx≤1000000)<;>simp
 rw[hv];have pl:=TG ds hd;refine Ev.congr (fun k=>?_) (sh (fun i k=>bV.l0 k (l7 ds i) ds (ds.length:Int) (i:Int) ds ns ss nx) ds.length _ _ _ (fun i r hi hp h=>?_) (fun i hi hp=>?_) ?_)
 ·simp only[bV.f];rfl
 ·refine Ev.round (body i hi _) (Ev.step (f:=fun k=>bV.l0 k (l7 ds (i+1)) ds (ds.length:Int) ((i+1:Nat):Int) ds ns ss nx) (fun k=>?_) h);have b1:=pl (i+1) (by omega);simp only[l7]at b1;simp only[bV.j1,l7];rw[if_neg (by simpa using hp),gO (n:=ds.length) hi (by omega),pQ (by omega) (by omega)]
 ·refine Ev.round (body i hi _) (Ev.ends (fun k=>?_));simp only[bV.j1];rw[if_pos (by simpa using hp)]
 ·obtain⟨K1,e1⟩:=ab1 ds ns ss nx ns h0 h1 z1;obtain⟨K2,e2⟩:=ab1 ds ns ss nx ss h0 h2 z2;dsimp only at e1 e2;refine Ev.round (f:=fun _=>some _) ⟨K1+K2,fun k hk=>?_⟩ (Ev.now _);simp only[bV.l0,jZ.f,DB];rw[if_neg (by omega),Option.bind_some];by_cases c1:1≤nx∧nx≤1000000
  case neg=>rw[decide_eq_false c1,if_neg (by decide)];rfl
  rw[decide_eq_true c1,if_pos rfl];by_cases c2:l7 ds ds.length≤60000
  case neg=>rw[if_neg c2,decide_eq_false c2];rfl
  rw[if_pos c2,decide_eq_true c2,e1 k (by omega),Option.bind_some];cases jV ds ns
  ·rw[if_neg (by decide)];rfl
  ·rw[if_pos rfl,e2 k (by omega),Option.bind_some];rfl
theorem acs:∀(n:Nat) (f:Nat→Int) (m:List Int),(∀i j,i<j→j<n→f i≠f j)→(∀i,i<n→f i ∈ m)→n≤m.length
 |0,_,_,_,_=>Nat.zero_le _
 |n+1,f,m,hne,hm=>by
  have hn:=hm n (by omega);have h:=acs n f (m.erase (f n)) (fun i j h1 h2=>hne i j h1 (by omega)) (fun i hi=>(List.mem_erase_of_ne (hne i n hi (by omega))).2 (hm i (by omega)));rw[List.length_erase_of_mem hn]at h;have:0<m.length:=List.length_pos_of_mem hn;omega
theorem KA {ds:List aj} {l:List ah} (h:jV ds l=true):l.length≤30:=by
 unfold jV at h;rw[vO,Bool.and_eq_true,decide_eq_true_eq]at h;omega
theorem xN {ds:List aj} {ns ss:List ah} {nx:Int} (h:td ds ns ss nx=true) (i:Nat) (hi:i<ds.length):oQ ds ns ss nx i=false:=
 F0 _ _ (by simpa[td] using h) i (by omega) (by omega)
theorem ab6 {ds:List aj} {ns ss:List ah} {nx:Int} {i:Nat} (h:oQ ds ns ss nx i=false) (hi:0<i):(aa ds ((i-1:Nat):Int)).f0<(aa ds (i:Int)).f0:=by
 unfold oQ at h;rw[Bool.or_eq_false_iff,Bool.or_eq_false_iff,decide_eq_true hi,Bool.true_and,decide_eq_false_iff_not]at h;omega
theorem ab7 {ds:List aj} {ns ss:List ah} {nx:Int} (h:td ds ns ss nx=true):∀(d i:Nat),i+d+1<ds.length→(aa ds (i:Int)).f0<(aa ds ((i+d+1:Nat):Int)).f0
 |0,i,hi=>ab6 (xN h (i+1) (by omega)) (by omega)
 |d+1,i,hi=>by
  have h1:=ab7 h d i (by omega);have h2:=ab6 (xN h (i+d+1+1) (by omega)) (by omega);rw[show i+d+1+1-1=i+d+1 from rfl]at h2;rw[show i+(d+1)+1=i+d+1+1 from by omega];omega
theorem QD {ds:List aj} {ns ss:List ah} {nx:Int} (h:td ds ns ss nx=true) (h1:jV ds ns=true) (h2:jV ds ss=true):ds.length≤60:=by
 have l1:=KA h1;have l2:=KA h2
 have hp:=acs ds.length (fun i=>(aa ds (i:Int)).f0) (ns.map (fun e=>e.f1)++ss.map (fun e=>e.f1)) (fun i j hij hj=>by
  have:=ab7 h (j-i-1) i (by omega);have e:i+(j-i-1)+1=j:=by omega
  rw[e]at this;show (aa ds (i:Int)).f0≠(aa ds (j:Int)).f0;omega) (fun i hi=>by
  have hb:=xN h i hi;unfold oQ at hb;rw[Bool.or_eq_false_iff,Bool.and_eq_false_iff]at hb
  rcases hb.2 with hb|hb
  ·exact List.mem_append_left _ (Tg (by simpa using hb))
  ·exact List.mem_append_right _ (Tg (by simpa using hb)))
 rw[List.length_append,List.length_map,List.length_map]at hp;omega
theorem acS (ds:List aj) (ns ss:List ah) (nx:Int) (h0:ds.length≤1048576) (hd:∀x ∈ ds,x.f1.length≤4194304) (h1:ns.length≤1048576) (h2:ss.length≤1048576) (z1:∀e ∈ ns,e.f0.size≤9223372036854775807) (z2:∀e ∈ ss,e.f0.size≤9223372036854775807):Ev (fun k=>bC.f k ds ns ss nx) (b8 ds ns ss nx):=by
 have body:∀i,i<ds.length→∀s,∃K,∀k,K≤k→bC.l0 (k+1) s (i:Int) ds ns ss nx=bC.j2 k s (i:Int) (oQ ds ns ss nx i) ds ns ss nx (aa ds (i:Int)).f0 (aa ds (i:Int)).f1 (aa ds (i:Int)).f2:=by
  intro i hi s;obtain⟨K1,e1⟩:=IB ns h1 (aa ds (i:Int)).f0;obtain⟨K2,e2⟩:=IB ss h2 (aa ds (i:Int)).f0;dsimp only at e1 e2;refine⟨K1+K2,fun k hk=>?_⟩;simp only[bC.l0,fc.f,DB];rw[if_pos (by omega),if_pos (by omega),Option.bind_some];unfold oQ;by_cases c1:1≤(aa ds (i:Int)).f0∧(aa ds (i:Int)).f0≤wrap64 (nx-1)
  case neg=>rw[decide_eq_false c1,if_neg (by decide)];rfl
  rw[decide_eq_true c1,if_pos rfl,Option.bind_some]
  have tail:(if decide (0≤(aa ds (i:Int)).f2∧(aa ds (i:Int)).f2≤((aa ds (i:Int)).f1.length:Int))=true then ((eI.f k ns (aa ds (i:Int)).f0).bind fun t152=>(if t152=true then (bC.j2 k s (i:Int) false ds ns ss nx (aa ds (i:Int)).f0 (aa ds (i:Int)).f1 (aa ds (i:Int)).f2) else ((eI.f k ss (aa ds (i:Int)).f0).bind fun t153=>(bC.j2 k s (i:Int) (!t153) ds ns ss nx (aa ds (i:Int)).f0 (aa ds (i:Int)).f1 (aa ds (i:Int)).f2)))) else (bC.j2 k s (i:Int) true ds ns ss nx (aa ds (i:Int)).f0 (aa ds (i:Int)).f1 (aa ds (i:Int)).f2))=bC.j2 k s (i:Int) (!decide (0≤(aa ds (i:Int)).f2∧(aa ds (i:Int)).f2≤((aa ds (i:Int)).f1.length:Int)) || (!named ns (aa ds (i:Int)).f0 && !named ss (aa ds (i:Int)).f0)) ds ns ss nx (aa ds (i:Int)).f0 (aa ds (i:Int)).f1 (aa ds (i:Int)).f2:=by
   by_cases c2:0≤(aa ds (i:Int)).f2∧(aa ds (i:Int)).f2≤((aa ds (i:Int)).f1.length:Int)
   case neg=>rw[decide_eq_false c2,if_neg (by decide)];rfl
   rw[decide_eq_true c2,if_pos rfl,e1 k (by omega),Option.bind_some];cases hn:named ns (aa ds (i:Int)).f0
   ·rw[if_neg (by decide),e2 k (by omega),Option.bind_some];rfl
   ·rw[if_pos rfl];rfl
  by_cases hp:(i:Int)>0
  ·have hp':0<i:=by omega
   rw[if_pos hp,Ng hi (by omega) hp',if_pos (by omega),if_pos (by omega),decide_eq_true hp'];by_cases c3:(aa ds ((i-1:Nat):Int)).f0≥(aa ds (i:Int)).f0
   ·rw[if_pos c3,decide_eq_true c3];simp
   rw[if_neg c3,decide_eq_false c3,tail];simp
  ·have hp':¬0<i:=by omega
   rw[if_neg hp,decide_eq_false hp',tail];simp
 have hv:b8 ds ns ss nx=(decide (1≤nx∧nx≤1000000)&&(!decide ((ds.length:Int)>60)&&hO (oQ ds ns ss nx) (fun _=>false) (decide (l7 ds ds.length≤60000)&&(jV ds ns&&jV ds ss)) 0 ds.length)):=by
  rw[vO];unfold b8;rw[show (!hO (oQ ds ns ss nx) (fun _=>true) false 0 ds.length)=td ds ns ss nx from rfl];cases ha:td ds ns ss nx<;>cases hb:jV ds ns<;>cases hc:jV ds ss<;>first|(have h60:=QD ha hb hc;rw[decide_eq_false (show ¬((ds.length:Int)>60) by omega)];simp;done)|simp
 rw[hv];have pl:=TG ds hd
 have loop:Ev (fun k=>bC.l0 k 0 0 ds ns ss nx) (hO (oQ ds ns ss nx) (fun _=>false) (decide (l7 ds ds.length≤60000)&&(jV ds ns&&jV ds ss)) 0 ds.length):=by
  refine sh (fun i k=>bC.l0 k (l7 ds i) (i:Int) ds ns ss nx) ds.length _ _ _ (fun i r hi hp h=>?_) (fun i hi hp=>?_) ?_
  ·refine Ev.round (body i hi _) (Ev.step (f:=fun k=>bC.l0 k (l7 ds (i+1)) ((i+1:Nat):Int) ds ns ss nx) (fun k=>?_) h);have b1:=pl (i+1) (by omega);simp only[l7]at b1;simp only[bC.j2,l7];rw[if_neg (by simpa using hp),gO (n:=ds.length) hi (by omega),pQ (by omega) (by omega)]
  ·refine Ev.round (body i hi _) (Ev.ends (fun k=>?_));simp only[bC.j2];rw[if_pos (by simpa using hp)]
  ·obtain⟨K1,e1⟩:=acT ds ns ss nx ns h0 h1 z1;obtain⟨K2,e2⟩:=acT ds ns ss nx ss h0 h2 z2;dsimp only at e1 e2;refine Ev.round (f:=fun _=>some _) ⟨K1+K2,fun k hk=>?_⟩ (Ev.now _);simp only[bC.l0];rw[if_neg (by omega)];by_cases c2:l7 ds ds.length≤60000
   case neg=>rw[if_neg c2,decide_eq_false c2];rfl
   rw[if_pos c2,decide_eq_true c2,e1 k (by omega),Option.bind_some];cases jV ds ns
   ·rw[if_neg (by decide)];rfl
   ·rw[if_pos rfl,e2 k (by omega),Option.bind_some];rfl
 by_cases c1:1≤nx∧nx≤1000000
 ·rw[decide_eq_true c1,Bool.true_and];by_cases c2:(ds.length:Int)>60
  ·rw[decide_eq_true c2];refine Ev.ends (fun k=>?_);simp only[bC.f,fc.f,DB];rw[decide_eq_true c1,Option.bind_some,if_pos rfl,decide_eq_true c2];simp only[bC.j0];rfl
  ·rw[decide_eq_false c2];refine Ev.step (fun k=>?_) loop;simp only[bC.f,fc.f,DB];rw[decide_eq_true c1,Option.bind_some,if_pos rfl,decide_eq_false c2];simp only[bC.j0];rw[if_neg (by decide)]
 ·rw[decide_eq_false c1,Bool.false_and];refine Ev.ends (fun k=>?_);simp only[bC.f,fc.f,DB];rw[decide_eq_false c1,Option.bind_some,if_neg (by decide)];simp only[bC.j0];rfl
theorem Df (p:Nat→Bool):∀(d i:Nat),(∃j,i≤j∧j<i+d∧p j=true∧∀ {ρ:Type} (stop:Nat→ρ) (e:ρ),hO p stop e i d=stop j)∨((∀j,i≤j→j<i+d→p j=false)∧∀ {ρ:Type} (stop:Nat→ρ) (e:ρ),hO p stop e i d=e)
 |0,i=>Or.inr ⟨fun j h1 h2=>by omega,fun _ _=>rfl⟩
 |d+1,i=>by
  by_cases hp:p i=true
  ·exact Or.inl ⟨i,by omega,by omega,hp,fun stop e=>by simp only[hO];rw[if_pos hp]⟩
  ·rcases Df p d (i+1) with ⟨j,h1,h2,h3,h4⟩|⟨h1,h2⟩
   ·exact Or.inl ⟨j,by omega,by omega,h3,fun stop e=>by simp only[hO];rw[if_neg hp];exact h4 stop e⟩
   ·refine Or.inr ⟨fun j a b=>?_,fun stop e=>by simp only[hO];rw[if_neg hp];exact h2 stop e⟩;by_cases hj:j=i
    ·subst hj;simpa using hp
    ·exact h1 j (by omega) (by omega)
theorem UC {a b:ByteArray} (h:a.toList=b.toList):a=b:=by
 rw[ByteArray.toList_eq,ByteArray.toList_eq]at h;exact ByteArray.ext (Array.toList_inj.1 h)
theorem Yk {ds:List aj} {l:List ah} (h:jV ds l=true) (i:Nat) (hi:i<l.length):ja (av l (i:Int)).f0=true∧0≤js ds (av l (i:Int)).f1:=by
 unfold jV at h;rw[vO,Bool.and_eq_true]at h;have hb:=F0 _ _ (by simpa using h.1) i (by omega) (by omega);unfold xi at hb;rw[Bool.or_eq_false_iff,Bool.or_eq_false_iff,Bool.or_eq_false_iff]at hb;obtain⟨⟨⟨h1,h2⟩,_⟩,_⟩:=hb;refine⟨by simpa using h1,?_⟩;have:=of_decide_eq_false h2;omega
theorem L4 {ds:List aj} {id:Int} (h:0≤js ds id):∃j,j<ds.length∧js ds id=(j:Int)∧(aa ds (j:Int)).f0=id:=by
 unfold js at h ⊢
 rcases Df (fun i=>decide ((aa ds (i:Int)).f0=id)) ds.length 0 with ⟨j,_,h2,h3,h4⟩|⟨_,h2⟩
 ·exact⟨j,by omega,h4 _ _,by simpa using h3⟩
 ·rw[h2]at h;omega
theorem It {ds:List aj} {ns ss:List ah} {nx:Int} {i:Nat} (h:oQ ds ns ss nx i=false):1≤(aa ds (i:Int)).f0∧0≤(aa ds (i:Int)).f2∧(aa ds (i:Int)).f2≤((aa ds (i:Int)).f1.length:Int):=by
 unfold oQ at h;rw[Bool.or_eq_false_iff,Bool.or_eq_false_iff,Bool.or_eq_false_iff]at h;obtain⟨⟨⟨h1,h2⟩,_⟩,_⟩:=h;have a:=of_decide_eq_true (by simpa using h1:decide (1≤(aa ds (i:Int)).f0∧(aa ds (i:Int)).f0≤wrap64 (nx-1))=true);have b:=of_decide_eq_true (by simpa using h2:decide (0≤(aa ds (i:Int)).f2∧(aa ds (i:Int)).f2≤((aa ds (i:Int)).f1.length:Int))=true);exact⟨a.1,b⟩
theorem y3 {ds:List aj} {ns ss:List ah} {nx:Int} (h:b8 ds ns ss nx=true):td ds ns ss nx=true∧jV ds ns=true∧jV ds ss=true:=by
 unfold b8 at h;simp only[Bool.and_eq_true]at h;exact⟨h.2.1,h.2.2.2.1,h.2.2.2.2⟩
theorem AQ {β γ:Type} (L:Nat→List β→Nat→Option γ) (n:Nat) (p:Nat→Bool) (h:Nat→β) (fin:List β→γ)
 (LS:∀(i:Nat) (out:List β) (r:γ),i<n→out.length≤i→p i=true→Ev (fun k=>L k (out++[h i]) (i+1)) r→Ev (fun k=>L k out i) r)
 (jB:∀(i:Nat) (out:List β) (r:γ),i<n→out.length≤i→p i=false→Ev (fun k=>L k out (i+1)) r→Ev (fun k=>L k out i) r)
 (he:∀out:List β,out.length≤n→Ev (fun k=>L k out n) (fin out)):Ev (fun k=>L k [] 0) (fin (((List.range n).filter p).map h)):=by
 have key:∀(d i:Nat),i+d=n→Ev (fun k=>L k (((List.range i).filter p).map h) i) (fin (((List.range n).filter p).map h)):=by
  intro d
  induction d with
  |zero=>
   intro i hi;have:i=n:=by omega
   subst this;exact he _ (by rw[List.length_map];exact Nat.le_trans (List.length_filter_le _ _) (by simp))
  |succ d ih=>
   intro i hi;have hl:(((List.range i).filter p).map h).length≤i:=by rw[List.length_map];exact Nat.le_trans (List.length_filter_le _ _) (by simp)
   have hn:=ih (i+1) (by omega);rw[List.range_succ,List.filter_append,List.map_append]at hn;cases hp:p i
   ·refine jB i _ _ (by omega) hl hp ?_;simpa[hp] using hn
   ·refine LS i _ _ (by omega) hl hp ?_;simpa[hp] using hn
 exact key n 0 (by omega)
theorem acy (ds:List aj):(List.range ds.length).map (fun (i:Nat)=>aa ds (i:Int))=ds:=by
 have:=acx ds (fun x=>x) z80;rw[List.map_id']at this;exact this
theorem ach (ds:List aj) (ns ss:List ah) (nx:Int) (h0:ds.length≤1048576) (hd:∀x ∈ ds,x.f1.length≤4194304) (h1:ns.length≤1048576) (h2:ss.length≤1048576):Ev (fun k=>dj.f k ds ns ss nx) (ds,ns,ss,nx):=by
 have loop:=AQ (fun k out i=>dj.l0 k (i:Int) ds ns ss nx out ns ss nx) ds.length (fun _=>true) (fun (i:Nat)=>aa ds (i:Int)) (fun out=>(out,ns,ss,nx)) (fun i out r hi ho _ h=>?_) (fun i out r hi ho hp h=>by simp at hp) (fun out ho=>?_)
 ·rw[List.filter_eq_self.2 (fun _ _=>rfl),acy]at loop;refine Ev.congr (fun k=>?_) loop;simp only[dj.f,Option.bind_some,List.nil_append,List.length_nil];rw[if_pos (by omega),if_pos (by omega)];rfl
 ·have hm:=hd _ (vX hi);refine Ev.step (fun k=>?_) h;simp only[dj.l0,Option.bind_some,List.nil_append,List.length_nil];rw[if_pos (by omega),if_pos (by omega),if_pos (by omega),if_pos (by omega),gO (n:=ds.length) hi (by omega)]
 ·refine Ev.ends (fun k=>?_);simp only[dj.l0];rw[if_neg (by omega)]
theorem Yc (ds:List aj) (ns ss:List ah) (nx:Int) (h0:ds.length≤1048576) (hd:∀x ∈ ds,x.f1.length≤4194304) (h1:ns.length≤1048576) (h2:ss.length≤1048576):Ev (fun k=>gi.f k ds ns ss nx) (ds,ns,ss,nx):=by
 have loop:=AQ (fun k out i=>gi.l0 k ds (ds.length:Int) (i:Int) out ns ss nx) ds.length (fun _=>true) (fun (i:Nat)=>aa ds (i:Int)) (fun out=>(out,ns,ss,nx)) (fun i out r hi ho _ h=>?_) (fun i out r hi ho hp h=>by simp at hp) (fun out ho=>?_)
 ·rw[List.filter_eq_self.2 (fun _ _=>rfl),acy]at loop;refine Ev.congr (fun k=>?_) loop;simp only[gi.f,List.nil_append,List.length_nil];rw[if_pos (by omega),if_pos (by omega)];rfl
 ·have hm:=hd _ (vX hi);refine Ev.step (fun k=>?_) h;simp only[gi.l0,rm.f,List.nil_append,List.length_nil];rw[if_pos (by omega),if_pos (by omega),if_pos (by omega),if_pos (by omega),Option.bind_some,if_pos (by omega),gO (n:=ds.length) hi (by omega)]
 ·refine Ev.ends (fun k=>?_);simp only[gi.l0];rw[if_neg (by omega)]
theorem ajd {β γ:Type} (L:Nat→List β→Nat→Option γ) (n:Nat) (p:Nat→Bool) (h:Nat→β) (r:γ)
 (LS:∀(i:Nat) (out:List β) (r:γ),i<n→out.length≤i→p i=true→Ev (fun k=>L k (out++[h i]) (i+1)) r→Ev (fun k=>L k out i) r)
 (jB:∀(i:Nat) (out:List β) (r:γ),i<n→out.length≤i→p i=false→Ev (fun k=>L k out (i+1)) r→Ev (fun k=>L k out i) r)
 (he:Ev (fun k=>L k (((List.range n).filter p).map h) n) r):Ev (fun k=>L k [] 0) r:=by
 have key:∀(d i:Nat),i+d=n→Ev (fun k=>L k (((List.range i).filter p).map h) i) r:=by
  intro d
  induction d with
  |zero=>
   intro i hi;have:i=n:=by omega
   subst this;exact he
  |succ d ih=>
   intro i hi;have hl:(((List.range i).filter p).map h).length≤i:=by rw[List.length_map];exact Nat.le_trans (List.length_filter_le _ _) (by simp)
   have hn:=ih (i+1) (by omega);rw[List.range_succ,List.filter_append,List.map_append]at hn;cases hp:p i
   ·refine jB i _ _ (by omega) hl hp ?_;simpa[hp] using hn
   ·refine LS i _ _ (by omega) hl hp ?_;simpa[hp] using hn
 exact key n 0 (by omega)
def kept (ds:List aj) (ns ss:List ah):List aj:=((List.range ds.length).filter (fun (i:Nat)=>named ns (aa ds (i:Int)).f0 || named ss (aa ds (i:Int)).f0)).map (fun (i:Nat)=>aa ds (i:Int))
theorem aoj (ds:List aj) (ns ss:List ah):(kept ds ns ss).length≤ds.length:=by
 unfold kept;rw[List.length_map];exact Nat.le_trans (List.length_filter_le _ _) (by simp)
theorem aok {ds:List aj} {ns ss:List ah} {x:aj} (h:x ∈ kept ds ns ss):x ∈ ds:=by
 obtain⟨i,hi,rfl⟩:=List.mem_map.1 h;exact vX (by simpa using (List.mem_filter.1 hi).1)
abbrev lH:=List aj × List ah × List ah × Int × Int
def mN (d0:List aj) (n0 s0:List ah) (x0:Int) (ds:List aj) (ns ss:List ah) (nx:Int):lH:=
 if b8 (kept ds ns ss) ns ss nx=true then (kept ds ns ss,ns,ss,nx,0) else (d0,n0,s0,x0,4)
structure Small (ds:List aj) (ns ss:List ah):Prop where
 h0:ds.length≤1048576
 hd:∀x ∈ ds,x.f1.length≤4194304
 h1:ns.length≤1048576
 h2:ss.length≤1048576
 z1:∀e ∈ ns,e.f0.size≤9223372036854775807
 z2:∀e ∈ ss,e.f0.size≤9223372036854775807
theorem Small.kept {ds:List aj} {ns ss:List ah} (h:Small ds ns ss):Small (kept ds ns ss) ns ss:=⟨Nat.le_trans (aoj ds ns ss) h.h0,fun x hx=>h.hd x (aok hx),h.h1,h.h2,h.z1,h.z2⟩
theorem Small.spec {ds:List aj} {ns ss:List ah} (h:Small ds ns ss) (nx:Int):Ev (fun k=>bC.f k ds ns ss nx) (b8 ds ns ss nx):=acS ds ns ss nx h.h0 h.hd h.h1 h.h2 h.z1 h.z2
theorem Small.impl {ds:List aj} {ns ss:List ah} (h:Small ds ns ss) (nx:Int):Ev (fun k=>bV.f k ds ns ss nx) (b8 ds ns ss nx):=L3 ds ns ss nx h.h0 h.hd h.h1 h.h2 h.z1 h.z2
theorem Small.Da {ds:List aj} {ns ss:List ah} (h:Small ds ns ss) (nx:Int):Ev (fun k=>dj.f k ds ns ss nx) (ds,ns,ss,nx):=ach ds ns ss nx h.h0 h.hd h.h1 h.h2
theorem Small.P3 {ds:List aj} {ns ss:List ah} (h:Small ds ns ss) (nx:Int):Ev (fun k=>gi.f k ds ns ss nx) (ds,ns,ss,nx):=Yc ds ns ss nx h.h0 h.hd h.h1 h.h2
theorem an5 (mdo:Nat→List aj→List ah→List ah→Int→Option lH) (d0:List aj) (n0 s0:List ah) (x0:Int) (ds:List aj) (ns ss:List ah) (nx:Int) (e0:List aj) (h0:Small d0 n0 s0) (h:Small ds ns ss):Ev (fun k=>cM.l1 mdo k [] ds (ds.length:Int) 0 d0 n0 s0 x0 e0 ns ss nx) (mN d0 n0 s0 x0 ds ns ss nx):=by
 refine ajd (fun k out i=>cM.l1 mdo k out ds (ds.length:Int) (i:Int) d0 n0 s0 x0 e0 ns ss nx) ds.length (fun (i:Nat)=>named ns (aa ds (i:Int)).f0 || named ss (aa ds (i:Int)).f0) (fun (i:Nat)=>aa ds (i:Int)) _ (fun i out r hi ho hp hh=>?_) (fun i out r hi ho hp hh=>?_) ?_
 ·obtain⟨K,e⟩:=xn ns h.h1 (aa ds (i:Int)).f0;obtain⟨K2,e2⟩:=xn ss h.h2 (aa ds (i:Int)).f0;dsimp only at e e2;have hb:=h.h0;refine Ev.round ⟨K+K2,fun k hk=>?_⟩ hh;simp only[cM.l1];rw[if_pos (by omega),if_pos (by omega),if_pos (by omega),e k (by omega),Option.bind_some];cases hq:named ns (aa ds (i:Int)).f0
  ·rw[hq,Bool.false_or]at hp;rw[if_neg (by decide),e2 k (by omega),Option.bind_some,hp,if_pos rfl,if_pos (by omega),gO (n:=ds.length) hi (by omega)]
  ·rw[if_pos rfl,if_pos (by omega),gO (n:=ds.length) hi (by omega)]
 ·obtain⟨K,e⟩:=xn ns h.h1 (aa ds (i:Int)).f0;obtain⟨K2,e2⟩:=xn ss h.h2 (aa ds (i:Int)).f0;dsimp only at e e2;rw[Bool.or_eq_false_iff]at hp;have hb:=h.h0;refine Ev.round ⟨K+K2,fun k hk=>?_⟩ hh;simp only[cM.l1];rw[if_pos (by omega),if_pos (by omega),if_pos (by omega),e k (by omega),Option.bind_some,hp.1,if_neg (by decide),e2 k (by omega),Option.bind_some,hp.2,if_neg (by decide),gO (n:=ds.length) hi (by omega)]
 ·refine Ev.step (f:=fun k=>(bV.f k (kept ds ns ss) ns ss nx).bind fun t=>(if t=true then (some (kept ds ns ss,ns,ss,nx,0)) else ((gi.f k d0 n0 s0 x0).bind fun bt=>(some (bt.1,bt.2.1,bt.2.2.1,bt.2.2.2,4))))) (fun k=>?_) ?_
  ·simp only[cM.l1];rw[if_neg (by omega)];rfl
  ·refine Ev.bind' (h.kept.impl nx) ?_;unfold mN;cases b8 (kept ds ns ss) ns ss nx
   ·simp only[Bool.false_eq_true,if_false];exact Ev.bind' (h0.P3 x0) (Ev.now _)
   ·simp only[if_true];exact Ev.now _
theorem aoh (ds:List aj) (ns ss:List ah) (nx:Int) (h0:ds.length≤1048576) (h1:ns.length≤1048576) (h2:ss.length≤1048576):Ev (fun k=>fe.f k ds ns ss nx) (kept ds ns ss,ns,ss,nx):=by
 have body:∀i,i<ds.length→∀out,∃K,∀k,K≤k→fe.l0 (k+1) out (i:Int) ds ns ss nx=fe.j1 k out (i:Int) (named ns (aa ds (i:Int)).f0 || named ss (aa ds (i:Int)).f0) ds ns ss nx:=by
  intro i hi out;obtain⟨K,e⟩:=IB ns h1 (aa ds (i:Int)).f0;obtain⟨K2,e2⟩:=IB ss h2 (aa ds (i:Int)).f0;dsimp only at e e2;refine⟨K+K2,fun k hk=>?_⟩;simp only[fe.l0];rw[if_pos (by omega),if_pos (by omega),e k (by omega),Option.bind_some];cases named ns (aa ds (i:Int)).f0
  ·rw[if_neg (by decide),e2 k (by omega),Option.bind_some,Bool.false_or]
  ·rw[if_pos rfl,Bool.true_or]
 refine Ev.congr (fun k=>?_) (AQ (fun k out i=>fe.l0 k out (i:Int) ds ns ss nx) ds.length _ _ (fun out=>(out,ns,ss,nx)) (fun i out r hi ho hp h=>?_) (fun i out r hi ho hp h=>?_) (fun out ho=>?_))
 ·simp only[fe.f];rfl
 ·refine Ev.round (body i hi out) (Ev.step (fun k=>?_) h);simp only[fe.j1,hp];rw[if_pos trivial,if_pos (by omega),if_pos (by omega),if_pos (by omega),gO (n:=ds.length) hi (by omega)]
 ·refine Ev.round (body i hi out) (Ev.step (fun k=>?_) h);simp only[fe.j1,hp];rw[if_neg (by decide),gO (n:=ds.length) hi (by omega)]
 ·refine Ev.ends (fun k=>?_);simp only[fe.l0];rw[if_neg (by omega)]
theorem MB (d0:List aj) (n0 s0:List ah) (x0:Int) (ds:List aj) (ns ss:List ah) (nx:Int) (h0:Small d0 n0 s0) (h:Small ds ns ss):Ev (fun k=>j6.f k d0 n0 s0 x0 ds ns ss nx) (mN d0 n0 s0 x0 ds ns ss nx):=by
 unfold j6.f mN;refine Ev.bind' (aoh ds ns ss nx h.h0 h.h1 h.h2) ?_;dsimp only;refine Ev.bind' (h.kept.spec nx) ?_;cases b8 (kept ds ns ss) ns ss nx
 ·simp only[Bool.false_eq_true,if_false];exact Ev.bind' (h0.Da x0) (Ev.now _)
 ·simp only[if_true];exact Ev.now _
def nameAt (l:List ah) (nm:ByteArray):Int:=hO (fun i=>decide ((av l (i:Int)).f0.toList=nm.toList)) (fun i=>(i:Int)) (-1) 0 l.length
def jY (l:List ah) (nm:ByteArray):Int:=hO (fun i=>decide ((av l (i:Int)).f0.toList=nm.toList)) (fun i=>(av l (i:Int)).f1) 0 0 l.length
theorem S3 (ds:List aj) (l c:List ah) (n:Int) (nm:ByteArray) (h:l.length≤1048576):Ev (fun k=>iY.f k ds l c n nm) (jY l nm):=by
 refine Ev.congr (fun k=>?_) (sh (fun i k=>iY.l0 k nm l (l.length:Int) (i:Int)) l.length _ _ _ (fun i r hi hp h=>?_) (fun i hi hp=>?_) ?_)
 ·simp only[iY.f];rfl
 ·refine Ev.step (fun k=>?_) h;simp only[iY.l0];rw[if_pos (by omega),if_pos (by omega),if_pos (by omega),if_neg (by simpa using hp),gO (n:=l.length) hi (by omega)]
 ·refine Ev.ends (fun k=>?_);simp only[iY.l0];rw[if_pos (by omega),if_pos (by omega),if_pos (by omega),if_pos (by simpa using hp)]
 ·refine Ev.ends (fun k=>?_);simp only[iY.l0];rw[if_neg (by omega)]
theorem Mb (l:List ah) (nm:ByteArray) (h:l.length≤1048576):Ev (fun k=>jD.f k l nm) (nameAt l nm):=by
 refine Ev.congr (fun k=>?_) (sh (fun i k=>jD.l0 k l nm (i:Int)) l.length _ _ _ (fun i r hi hp h=>?_) (fun i hi hp=>?_) ?_)
 ·simp only[jD.f];rfl
 ·refine Ev.step (fun k=>?_) h;simp only[jD.l0];rw[if_pos (by omega),if_pos (by omega),if_neg (by simpa using hp),gO (n:=l.length) hi (by omega)]
 ·refine Ev.ends (fun k=>?_);simp only[jD.l0];rw[if_pos (by omega),if_pos (by omega),if_pos (by simpa using hp)]
 ·refine Ev.ends (fun k=>?_);simp only[jD.l0];rw[if_neg (by omega)]
theorem DH {ds:List aj} {ns ss:List ah} {nx:Int} (h:b8 ds ns ss nx=true) (nm:ByteArray) :
 (nameAt ns nm = -1∧jY ns nm=0)∨(∃j m,j<ns.length∧nameAt ns nm=(j:Int)∧jY ns nm=(av ns (j:Int)).f1∧jY ns nm≠0∧m<ds.length∧js ds (av ns (j:Int)).f1=(m:Int)∧ja nm=true):=by
 obtain⟨hi,h1,_⟩:=y3 h;unfold nameAt jY
 rcases Df (fun i=>decide ((av ns (i:Int)).f0.toList=nm.toList)) ns.length 0 with ⟨j,_,j2,j3,j4⟩|⟨_,j2⟩
 ·right;obtain⟨e1,e2⟩:=Yk h1 j (by omega);obtain⟨m,m1,m2,m3⟩:=L4 e2;have hp:=(It (xN hi m m1)).1;refine⟨j,m,by omega,j4 _ _,j4 _ _,?_,m1,m2,?_⟩
  ·rw[j4,←m3];omega
  ·rw[←UC (of_decide_eq_true j3)];exact e1
 ·left;exact⟨j2 _ _,j2 _ _⟩
def gf (ok:Bool) (ns:List ah) (nm:ByteArray):Int:=if (ok&&ja nm)=true then (if nameAt ns nm<0 then 2 else 0) else 1
theorem Mc (ds:List aj) (ns ss:List ah) (nx:Int) (nm:ByteArray) (hn:nm.size≤9223372036854775807) (h:Small ds ns ss):Ev (fun k=>ik.f k ds ns ss nx nm) (gf (b8 ds ns ss nx) ns nm):=by
 obtain⟨K1,e1⟩:=h.spec nx;obtain⟨K2,e2⟩:=Uk nm hn;obtain⟨K3,e3⟩:=Mb ns nm h.h1;dsimp only at e1 e2 e3;refine⟨K1+K2+K3+1,fun k hk=>?_⟩;obtain⟨q,rfl⟩:∃q,k=q+1:=⟨k-1,by omega⟩;simp only[ik.f];rw[e1 _ (by omega),Option.bind_some];unfold gf;cases b8 ds ns ss nx
 ·rw[if_neg (by decide),Bool.false_and,if_neg (by decide)];simp only[ik.j0];rfl
 rw[if_pos rfl,e2 _ (by omega),Option.bind_some,Bool.true_and];simp only[ik.j0];cases ja nm
 ·rfl
 ·rw[if_neg (by decide),if_pos rfl,e3 _ (by omega),Option.bind_some];split<;>rfl
abbrev WU:=Nat→List aj→List ah→List ah→Int→Option lH
def IF (ds:List aj) (ns ss:List ah) (nx:Int) (names:List ByteArray) (there:Bool) (R:lH):lH:=
 if (there&&jY ns (l8 ByteArray.empty names 0) == 0)=true then (ds,ns,ss,nx,2) else if R.2.2.2.2=0 then mN ds ns ss nx R.1 R.2.1 R.2.2.1 R.2.2.2.1 else (ds,ns,ss,nx,R.2.2.2.2)
def FH (ds:List aj) (ns ss:List ah) (nx:Int) (names:List ByteArray) (there:Bool) (R:lH):lH:=
 if b8 ds ns ss nx=true then (if names.all ja=true then IF ds ns ss nx names there R else (ds,ns,ss,nx,1)) else (ds,ns,ss,nx,1)
theorem ab2 (mdo:WU) (ds:List aj) (ns ss:List ah) (nx:Int) (R:lH) (h:Small ds ns ss) (hm:Ev (fun k=>mdo k ds ns ss nx) R∧(R.2.2.2.2=0→Small R.1 R.2.1 R.2.2.1)) :
 Ev (fun k=>cM.j1 mdo k false ds ns ss nx ds ns ss nx) (if R.2.2.2.2=0 then mN ds ns ss nx R.1 R.2.1 R.2.2.1 R.2.2.2.1 else (ds,ns,ss,nx,R.2.2.2.2)):=by
 refine Ev.step (f:=fun k=>(mdo k ds ns ss nx).bind fun t=>(if t.2.2.2.2=0 then (cM.l1 mdo k [] t.1 (t.1.length:Int) 0 ds ns ss nx t.1 t.2.1 t.2.2.1 t.2.2.2.1) else ((gi.f k ds ns ss nx).bind fun b=>(some (b.1,b.2.1,b.2.2.1,b.2.2.2,t.2.2.2.2))))) (fun k=>?_) (Ev.bind' hm.1 ?_)
 ·simp only[cM.j1,Bool.false_eq_true,if_false]
 ·by_cases hc:R.2.2.2.2=0
  ·simp only[hc,if_true];exact an5 mdo ds ns ss nx R.1 R.2.1 R.2.2.1 R.2.2.2.1 R.1 h (hm.2 hc)
  ·simp only[hc,if_false];exact Ev.bind' (h.P3 nx) (Ev.now _)
theorem ab0 (mdo:WU) (ds:List aj) (ns ss:List ah) (nx:Int) (names:List ByteArray) (there:Bool) (R:lH) (h:Small ds ns ss) (hl:names.length≤2) (hz:∀nm ∈ names,nm.size≤9223372036854775807) (hth:there=true→0<names.length)
 (hm:b8 ds ns ss nx=true→names.all ja=true→(there=true→jY ns (l8 ByteArray.empty names 0)≠0)→Ev (fun k=>mdo k ds ns ss nx) R∧(R.2.2.2.2=0→Small R.1 R.2.1 R.2.2.1)):Ev (fun k=>cM.f mdo k ds ns ss nx names there) (FH ds ns ss nx names there R):=by
 unfold cM.f FH;refine Ev.bind' (h.P3 nx) ?_;refine Ev.bind' (h.impl nx) ?_;cases hok:b8 ds ns ss nx
 ·simp only[Bool.false_eq_true,if_false];exact Ev.now _
 simp only[if_true]
 have key:∀(d i:Nat),i+d=names.length→((names.drop i).all ja=true→names.all ja=true)→Ev (fun k=>cM.l0 mdo k names there names (names.length:Int) (i:Int) ds ns ss nx ds ns ss nx) (if (names.drop i).all ja=true then IF ds ns ss nx names there R else (ds,ns,ss,nx,1)):=by
  intro d
  induction d with
  |zero=>
   intro i hi hall;have e:names.drop i=[]:=List.drop_eq_nil_of_le (by omega);rw[e]at hall ⊢;have hall:=hall rfl;rw[if_pos (show ([]:List ByteArray).all ja=true from rfl)];unfold IF;cases there with
   |false=>
    rw[Bool.false_and,if_neg (by decide)];refine Ev.step (f:=fun k=>cM.j1 mdo k false ds ns ss nx ds ns ss nx) (fun k=>?_) (ab2 mdo ds ns ss nx R h (hm hok hall (fun h=>by simp at h)));simp only[cM.l0];rw[if_neg (by omega),if_neg (by decide)]
   |true=>
    rw[Bool.true_and];obtain⟨K,e1⟩:=S3 ds ns ss nx (l8 ByteArray.empty names 0) h.h1;have hpos:=hth rfl;dsimp only at e1;refine Ev.round (f:=fun k=>cM.j1 mdo k (jY ns (l8 ByteArray.empty names 0) == 0) ds ns ss nx ds ns ss nx) ⟨K,fun k hk=>?_⟩ ?_
    ·simp only[cM.l0];rw[if_neg (by omega),if_pos trivial,if_pos (by omega),e1 k hk,Option.bind_some]
    ·by_cases hc:jY ns (l8 ByteArray.empty names 0)=0
     ·rw[hc];refine Ev.ends (fun k=>?_);simp only[cM.j1];rfl
     ·rw[beq_eq_false_iff_ne.2 hc,if_neg (by decide)];exact ab2 mdo ds ns ss nx R h (hm hok hall (fun _=>hc))
  |succ d ih=>
   intro i hi hall;have hil:i<names.length:=by omega
   have ed:names.drop i=names[i]::names.drop (i+1):=List.drop_eq_getElem_cons hil
   have er:l8 ByteArray.empty names (i:Int)=names[i]:=by
    show names.getD i ByteArray.empty=_;rw[List.getD_eq_getElem?_getD,List.getElem?_eq_getElem hil];rfl
   obtain⟨K1,e1⟩:=ab3 names[i] (hz _ (List.getElem_mem hil));dsimp only at e1;rw[ed,List.all_cons]at hall ⊢;cases hno:ja names[i] with
   |false=>
    rw[Bool.false_and,if_neg (by decide)];refine Ev.round (f:=fun k=>some (ds,ns,ss,nx,1)) ⟨K1,fun k hk=>?_⟩ (Ev.now _);simp only[cM.l0];rw[if_pos (by omega),if_pos (by omega),if_pos (by omega),er,e1 k hk,Option.bind_some,hno,if_neg (by decide)]
   |true=>
    rw[hno,Bool.true_and]at hall;rw[Bool.true_and];refine Ev.round (f:=fun k=>cM.l0 mdo k names there names (names.length:Int) ((i+1:Nat):Int) ds ns ss nx ds ns ss nx) ⟨K1,fun k hk=>?_⟩ (ih (i+1) (by omega) hall);simp only[cM.l0];rw[if_pos (by omega),if_pos (by omega),if_pos (by omega),er,e1 k hk,Option.bind_some,hno,if_pos rfl,gO (n:=names.length) hil (by omega)]
 have:=key names.length 0 (by omega) (fun h=>h);rw[List.drop_zero]at this;exact this
theorem ah5 (ds:List aj) (ns ss:List ah) (nx:Int) (nm:ByteArray) (R:lH):FH ds ns ss nx [nm] true R=if gf (b8 ds ns ss nx) ns nm=0 then (if R.2.2.2.2=0 then mN ds ns ss nx R.1 R.2.1 R.2.2.1 R.2.2.2.1 else (ds,ns,ss,nx,R.2.2.2.2)) else (ds,ns,ss,nx,gf (b8 ds ns ss nx) ns nm):=by
 unfold FH IF gf;have e0:l8 ByteArray.empty [nm] 0=nm:=rfl;rw[e0,List.all_cons,List.all_nil,Bool.and_true,Bool.true_and];cases hok:b8 ds ns ss nx
 ·simp
 ·rw[Bool.true_and,if_pos rfl];cases hno:ja nm
  ·simp
  ·rw[if_pos rfl,if_pos rfl]
   rcases DH hok nm with ⟨c1,c2⟩|⟨j,m,c1,c2,c3,c4,_⟩
   ·rw[c2,if_pos (by decide),if_pos (show nameAt ns nm<0 by omega),if_neg (by decide)]
   ·rw[beq_eq_false_iff_ne.2 c4,if_neg (by decide),if_neg (show ¬nameAt ns nm<0 by omega),if_pos rfl]
theorem ah4 {ds:List aj} {ns ss:List ah} {nx:Int} {nm:ByteArray} (hok:b8 ds ns ss nx=true) (hid:jY ns nm≠0):∃j m,j<ns.length∧nameAt ns nm=(j:Int)∧jY ns nm=(av ns (j:Int)).f1∧m<ds.length∧js ds (jY ns nm)=(m:Int):=by
 rcases DH hok nm with ⟨c1,c2⟩|⟨j,m,c1,c2,c3,c4,c5,c6,_⟩
 ·exact absurd c2 hid
 ·exact⟨j,m,c1,c2,c3,c5,by rw[c3];exact c6⟩
def gG (ns:List ah) (nm:ByteArray):List ah:=((List.range ns.length).filter (fun (i:Nat)=>!decide ((av ns (i:Int)).f0.toList=nm.toList))).map (fun (i:Nat)=>av ns (i:Int))
theorem zQ (ns:List ah) (nm:ByteArray):(gG ns nm).length≤ns.length:=by
 unfold gG;rw[List.length_map];exact Nat.le_trans (List.length_filter_le _ _) (by simp)
theorem Ck {ns:List ah} {nm:ByteArray} {x:ah} (h:x ∈ gG ns nm):x ∈ ns:=by
 obtain⟨i,hi,rfl⟩:=List.mem_map.1 h;exact Mw (by simpa using (List.mem_filter.1 hi).1)
theorem Small.gG {ds:List aj} {ns ss:List ah} (h:Small ds ns ss) (nm:ByteArray):Small ds (gG ns nm) ss:=⟨h.h0,h.hd,Nat.le_trans (zQ ns nm) h.h1,h.h2,fun e he=>h.z1 e (Ck he),h.z2⟩
theorem apr (ns:List ah) (nm:ByteArray) (h:ns.length≤1048576):Ev (fun k=>nc.f k ns nm) (gG ns nm):=by
 refine Ev.congr (fun k=>?_) (AQ (fun k out i=>nc.l0 k ns nm out (i:Int)) ns.length _ _ (fun out=>out) (fun i out r hi ho hp h=>?_) (fun i out r hi ho hp h=>?_) (fun out ho=>?_))
 ·simp only[nc.f];rfl
 ·refine Ev.step (fun k=>?_) h;simp only[nc.l0];rw[if_pos (by omega),if_pos (by omega),if_neg (by simpa using hp),if_pos (by omega),gO (n:=ns.length) hi (by omega)]
 ·refine Ev.step (fun k=>?_) h;simp only[nc.l0];rw[if_pos (by omega),if_pos (by omega),if_pos (by simpa using hp),gO (n:=ns.length) hi (by omega)]
 ·refine Ev.ends (fun k=>?_);simp only[nc.l0];rw[if_neg (by omega)]
theorem PB:∀a b:List UInt8,(Op.bytesLess a b || a == b) = !(Op.bytesLess b a)
 |[],[]=>rfl
 |[],_::_=>rfl
 |_::_,[]=>rfl
 |a::x,b::y=>by
  have ih:=PB x y;simp only[Op.bytesLess];by_cases h1:a<b
  ·have h2:¬b<a:=fun h=>by simp only[UInt8.lt_iff_toNat_lt]at h1 h;omega
   have h3:¬(b=a):=fun h=>by subst h;simp only[UInt8.lt_iff_toNat_lt]at h1;omega
   simp[h1,h2,h3]
  ·by_cases h2:b<a
   ·have h3:¬(a=b):=fun h=>by subst h;simp only[UInt8.lt_iff_toNat_lt]at h2;omega
    simp[h1,h2,h3]
   ·have h3:a=b:=by
     apply UInt8.toNat_inj.1;simp only[UInt8.lt_iff_toNat_lt]at h1 h2;omega
    subst h3;simpa using ih
theorem XJ (a:List UInt8):Op.bytesLess a a=false:=by
 have h:=PB a a;simp at h;cases hq:Op.bytesLess a a with
 |false=>rfl
 |true=>rw[hq]at h;simp at h
theorem Fs {a b:List UInt8} (h:Op.bytesLess a b=true):a≠b:=fun e=>by subst e;rw[XJ]at h;simp at h
theorem XK {a b:List UInt8} (h:Op.bytesLess a b=false) (hne:a≠b):Op.bytesLess b a=true:=by
 have t:=PB a b;rw[h,beq_eq_false_iff_ne.2 hne]at t;simpa using t.symm
theorem Ft:∀ {a b c:List UInt8},Op.bytesLess a b=true→Op.bytesLess b c=true→Op.bytesLess a c=true
 |_,_,[],_,h2=>by rename_i a b _;cases b<;>simp[Op.bytesLess]at h2
 |[],_,_::_,_,_=>rfl
 |a::x,[],c::z,h1,_=>by simp[Op.bytesLess]at h1
 |a::x,b::y,c::z,h1,h2=>by
  have ih:=@Ft x y z;simp only[Op.bytesLess]at h1 h2 ⊢;by_cases h3:a<b
  ·by_cases h4:b<c
   ·have:a<c:=by simp only[UInt8.lt_iff_toNat_lt] at *;omega
    simp[this]
   ·by_cases h5:b=c
    ·subst h5;simp[h3]
    ·simp[h4,h5]at h2
  ·by_cases h5:a=b
   ·subst h5;by_cases h4:a<c
    ·simp[h4]
    ·by_cases h6:a=c
     ·subst h6;simp[h3]at h1 h2 ⊢;exact ih h1 h2
     ·simp[h4,h6]at h2
   ·simp[h3,h5]at h1
abbrev uE (a b:ah):Prop:=bn.lt a b=true
theorem aoO (xs:List ah):(bn.sort xs).Perm xs∧(bn.sort xs).Pairwise (fun a b=>bn.lt b a=false):=by
 unfold bn.sort;split
 ·obtain⟨⟨hsz,_,hp⟩,hs⟩:=Go.Sort.pdq_sorts bn.lt bn.swo xs.toArray 0 xs.toArray.size (Go.Lib.bitLen xs.toArray.size) true true (Nat.zero_le _) (Nat.le_refl _) (Or.inl rfl);generalize Go.Sort.pdq bn.lt xs.toArray 0 xs.toArray.size (Go.Lib.bitLen xs.toArray.size) true true=d' at hsz hp hs
  have e1:d'.extract 0 xs.toArray.size=d':=by rw[←hsz];exact Array.extract_size
  rw[e1,Array.extract_size]at hp;refine⟨hp,?_⟩;rw[List.pairwise_iff_getElem];intro i j hi hj hij;have hi':i<d'.size:=by simpa using hi
  have hj':j<d'.size:=by simpa using hj
  have:=hs i j (Nat.zero_le _) hij (by omega);rw[getElem!_pos d' j hj',getElem!_pos d' i hi']at this;simpa using this
 ·rename_i h;refine⟨List.Perm.refl _,?_⟩
  match xs,h with
  |[],_=>exact List.Pairwise.nil
  |[a],_=>exact List.pairwise_singleton _ _
  |a::b::r,h=>exact absurd (by simp) h
def mT (e:ah):List ah→List ah
 |[]=>[e]
 |x::r=>if bn.lt x e=true then x::mT e r else e::x::r
theorem Iv (e:ah):∀l,(mT e l).Perm (l++[e])
 |[]=>List.Perm.refl _
 |x::r=>by
  unfold mT;split
  ·exact(Iv e r).cons x
  ·exact(List.perm_append_singleton e (x::r)).symm
theorem DD {e y:ah} {l:List ah} (h:y ∈ mT e l):y=e∨y ∈ l:=by
 have:=(Iv e l).mem_iff.1 h;rw[List.mem_append,List.mem_singleton]at this;exact this.symm
theorem ab9 (e:ah) (l:List ah):(mT e l).length=l.length+1:=by rw[(Iv e l).length_eq];simp
theorem aca (e:ah):∀l,l.Pairwise uE→(∀x ∈ l,x.f0.toList≠e.f0.toList)→(mT e l).Pairwise uE
 |[],_,_=>List.pairwise_singleton _ _
 |x::r,h,hne=>by
  obtain⟨h1,h2⟩:=List.pairwise_cons.1 h;unfold mT;split
  ·rename_i hx;refine List.pairwise_cons.2 ⟨fun y hy=>?_,aca e r h2 (fun y hy=>hne y (List.mem_cons_of_mem _ hy))⟩
   rcases DD hy with rfl|hy
   ·exact hx
   ·exact h1 y hy
  ·rename_i hx;have hex:bn.lt e x=true:=XK (show Op.bytesLess x.f0.toList e.f0.toList=false from Bool.eq_false_iff.2 hx) (hne x List.mem_cons_self);refine List.pairwise_cons.2 ⟨fun y hy=>?_,h⟩
   rcases List.mem_cons.1 hy with rfl|hy
   ·exact hex
   ·exact Ft hex (h1 y hy)
theorem aoN (l:List ah) (e:ah) (h:l.Pairwise uE) (hne:∀x ∈ l,x.f0.toList≠e.f0.toList):bn.sort (l++[e])=mT e l:=by
 obtain⟨hp,hs⟩:=aoO (l++[e]);have hi:=aca e l h hne;have LR:(mT e l).Pairwise (fun a b=>a.f0.toList≠b.f0.toList):=hi.imp (fun h=>Fs h);have hpp:=hp.trans (Iv e l).symm;have anz:(bn.sort (l++[e])).Pairwise (fun a b=>a.f0.toList≠b.f0.toList):=(hpp.pairwise_iff (fun h=>h.symm)).2 LR;have hs2:(bn.sort (l++[e])).Pairwise uE:=(hs.and anz).imp (fun h=>XK h.1 (fun e=>h.2 e.symm));refine List.Perm.eq_of_pairwise (le:=uE) (fun a b _ _ h1 h2=>?_) hs2 hi hpp;have:=Ft h1 h2;rw[XJ]at this;exact absurd this (by decide)
theorem Yl {ds:List aj} {l:List ah} (h:jV ds l=true) (i:Nat) (hi:i<l.length) (h0:0<i):Op.bytesLess (av l ((i-1:Nat):Int)).f0.toList (av l (i:Int)).f0.toList=true:=by
 unfold jV at h;rw[vO,Bool.and_eq_true]at h;have hb:=F0 _ _ (by simpa using h.1) i (by omega) (by omega);unfold xi at hb;rw[Bool.or_eq_false_iff,Bool.or_eq_false_iff]at hb;have h2:=hb.1.2;simpa[h0] using h2
theorem Qr {ds:List aj} {l:List ah} (h:jV ds l=true):l.Pairwise uE:=by
 have key:∀(d i:Nat),i+d+1<l.length→Op.bytesLess (av l (i:Int)).f0.toList (av l ((i+d+1:Nat):Int)).f0.toList=true:=by
  intro d
  induction d with
  |zero=>intro i hi;exact Yl h (i+1) hi (by omega)
  |succ d ih=>intro i hi;exact Ft (ih i (by omega)) (Yl h (i+(d+1)+1) hi (by omega))
 rw[List.pairwise_iff_getElem];intro i j hi hj hij;have:=key (j-i-1) i (by omega);rw[show i+(j-i-1)+1=j from by omega]at this;have e1:av l (i:Int)=l[i]:=by unfold av;simp[List.getD_eq_getElem?_getD,hi]
 have e2:av l (j:Int)=l[j]:=by unfold av;simp[List.getD_eq_getElem?_getD,hj]
 rw[e1,e2]at this;exact this
theorem aoy {l:List ah} {nm:ByteArray} (h:nameAt l nm<0):∀x ∈ l,x.f0.toList≠nm.toList:=by
 unfold nameAt at h
 rcases Df (fun i=>decide ((av l (i:Int)).f0.toList=nm.toList)) l.length 0 with ⟨j,_,_,_,j4⟩|⟨j1,_⟩
 ·rw[j4]at h;omega
 ·intro x hx;obtain⟨i,hi,rfl⟩:=List.getElem_of_mem hx;have:=j1 i (by omega) (by omega);have e1:av l (i:Int)=l[i]:=by unfold av;simp[List.getD_eq_getElem?_getD,hi]
  rw[e1]at this;exact of_decide_eq_false this
def nL (e x:ah):Bool:=!decide (x.f0.toList=e.f0.toList)
def D5 (e:ah):List ah→List ah
 |[]=>[e]
 |x::r=>if bn.lt x e=true then x::D5 e r else e::(x::r).filter (nL e)
theorem aoc (e:ah) (l:List ah) (h:∀y ∈ l,bn.lt y e=false):mT e l=e::l:=by
 cases l with
 |nil=>rfl
 |cons x r=>
  unfold mT;rw[if_neg (by rw[h x List.mem_cons_self];decide)]
theorem adM (e:ah):∀l,l.Pairwise uE→D5 e l=mT e (l.filter (nL e))
 |[],_=>rfl
 |x::r,h=>by
  obtain⟨h1,h2⟩:=List.pairwise_cons.1 h;unfold D5;by_cases hx:bn.lt x e=true
  ·rw[if_pos hx,adM e r h2,List.filter_cons,if_pos (show nL e x=true by unfold nL;simpa using Fs hx)]
   conv=>rhs;unfold mT
   rw[if_pos hx]
  ·rw[if_neg hx,aoc];intro y hy
   rcases List.mem_cons.1 (List.mem_filter.1 hy).1 with rfl|hr
   ·exact Bool.eq_false_iff.2 hx
   ·refine Bool.eq_false_iff.2 (fun hye=>hx ?_);exact Ft (h1 y hr) hye
theorem aot (l:List ah) (nm:ByteArray) (n:Int) (hl:l.length≤1048576):∀(d i:Nat) (out:List ah) (b:Bool),i+d=l.length→out.length≤i+(if b=true then 1 else 0) →
 Ev (fun k=>dJ.l0 k l out b (i:Int) nm n) (out++(if b=true then (l.drop i).filter (nL ⟨nm,n⟩) else D5 (⟨nm,n⟩:ah) (l.drop i))):=by
 intro d
 induction d with
 |zero=>
  intro i out b hi ho;rw[List.drop_eq_nil_of_le (by omega)];refine Ev.ends (fun k=>?_);simp only[dJ.l0];rw[if_neg (by omega)];cases b
  ·rw[if_neg (by decide),if_pos (by simp at ho;omega),if_neg (by decide)];rfl
  ·simp
 |succ d ih=>
  intro i out b hi ho;have hil:i<l.length:=by omega
  have ed:l.drop i=l[i]::l.drop (i+1):=List.drop_eq_getElem_cons hil;have er:av l (i:Int)=l[i]:=by unfold av;simp[List.getD_eq_getElem?_getD,hil]
  have oc:∀(k:Nat) (o:List ah) (c:Bool),o.length≤i+2→dJ.j2 (k+1) l o c (i:Int) nm n=dJ.l0 k l (o++[l[i]].filter (nL ⟨nm,n⟩)) c ((i+1:Nat):Int) nm n:=by
   intro k o c bE;simp only[dJ.j2];rw[if_pos (by omega),if_pos (by omega),er,gO (n:=l.length) hil (by omega)];by_cases hn:l[i].f0.toList=nm.toList
   ·rw[if_pos hn,List.filter_cons,if_neg (show ¬nL ⟨nm,n⟩ l[i]=true by unfold nL;simpa using hn)];simp
   ·rw[if_neg hn,if_pos (by omega),List.filter_cons,if_pos (show nL ⟨nm,n⟩ l[i]=true by unfold nL;simpa using hn)];simp
  have hf:∀(o:List ah),(o++[l[i]].filter (nL ⟨nm,n⟩)).length≤o.length+1:=by
   intro o;rw[List.length_append];have:=List.length_filter_le (nL ⟨nm,n⟩) [l[i]];simp at this ⊢;omega
  have ef:(l[i]::l.drop (i+1)).filter (nL ⟨nm,n⟩)=[l[i]].filter (nL ⟨nm,n⟩)++(l.drop (i+1)).filter (nL ⟨nm,n⟩):=by rw[←List.filter_append];rfl
  cases b
  ·cases hc:bn.lt l[i] (⟨nm,n⟩:ah)
   ·
     obtain⟨K,h1⟩:=ih (i+1) (out++[(⟨nm,n⟩:ah)]++[l[i]].filter (nL ⟨nm,n⟩)) true (by omega) (by have:=hf (out++[(⟨nm,n⟩:ah)]);simp at ho this ⊢;omega);refine⟨K+3,fun k hk=>?_⟩;obtain⟨q,rfl⟩:∃q,k=q+3:=⟨k-3,by omega⟩;have sj:Op.bytesLess l[i].f0.toList nm.toList=false:=hc;have h2:=h1 q (by omega);simp only[dJ.l0,dJ.j1];rw[if_pos (by omega),if_neg (by decide),if_pos (by omega),er,sj,if_pos (by decide),if_pos (by simp at ho;omega),oc q _ _ (by simp at ho ⊢;omega)];refine h2.trans ?_;rw[ed,if_pos rfl,if_neg (by decide)];unfold D5;rw[if_neg (by rw[hc];decide),ef];simp
   ·obtain⟨K,h1⟩:=ih (i+1) (out++[l[i]]) false (by omega) (by simp at ho ⊢;omega);refine⟨K+3,fun k hk=>?_⟩;obtain⟨q,rfl⟩:∃q,k=q+3:=⟨k-3,by omega⟩;have sj:Op.bytesLess l[i].f0.toList nm.toList=true:=hc;have h2:=h1 q (by omega);have e1:[l[i]].filter (nL ⟨nm,n⟩)=[l[i]]:=by rw[List.filter_cons,if_pos (show nL ⟨nm,n⟩ l[i]=true by unfold nL;simpa using Fs sj)];rfl
    simp only[dJ.l0,dJ.j1];rw[if_pos (by omega),if_neg (by decide),if_pos (by omega),er,sj,if_neg (by decide),oc q _ _ (by simp at ho ⊢;omega),e1];refine h2.trans ?_;rw[ed,if_neg (by decide),if_neg (by decide)]
    conv=>rhs;unfold D5
    rw[if_pos hc];simp
  ·obtain⟨K,h1⟩:=ih (i+1) (out++[l[i]].filter (nL ⟨nm,n⟩)) true (by omega) (by have:=hf out;simp at ho this ⊢;omega);refine⟨K+3,fun k hk=>?_⟩;obtain⟨q,rfl⟩:∃q,k=q+3:=⟨k-3,by omega⟩;have h2:=h1 q (by omega);simp only[dJ.l0,dJ.j1];rw[if_pos (by omega),if_pos trivial,if_neg (by decide),oc q _ _ (by simp at ho ⊢;omega)];refine h2.trans ?_;rw[if_pos rfl,if_pos trivial,ed,ef,List.append_assoc]
theorem Nd (ns:List ah) (nm:ByteArray):gG ns nm=ns.filter (fun x=>!decide (x.f0.toList=nm.toList)):=by
 have hm:ns=(List.range ns.length).map (fun (i:Nat)=>av ns (i:Int)):=by
  refine List.ext_getElem (by simp) (fun i h1 h2=>?_);rw[List.getElem_map,List.getElem_range];unfold av;simp[List.getD_eq_getElem?_getD,h1]
 conv=>rhs;rw[hm,List.filter_map]
 unfold gG;rfl
theorem aos (l:List ah) (nm:ByteArray) (n:Int) (hl:l.length≤1048576) (hr:l.Pairwise uE):Ev (fun k=>dJ.f k l nm n) (mT (⟨nm,n⟩:ah) (gG l nm)):=by
 refine Ev.congr (fun k=>?_) (show Ev _ _ from (by have:=aot l nm n hl l.length 0 [] false (by omega) (by simp);rw[List.drop_zero,if_neg (by decide),adM _ _ hr]at this;rw[Nd];exact this));simp only[dJ.f];rfl
theorem aov (l:List ah) (nm:ByteArray) (n:Int) (hl:l.length≤1048576) (hne:∀x ∈ l,x.f0.toList≠nm.toList):∀(d i:Nat) (out:List ah) (b:Bool),i+d=l.length→out.length≤i+(if b=true then 1 else 0) →
 Ev (fun k=>dJ.l0 k l out b (i:Int) nm n) (out++(if b=true then l.drop i else mT (⟨nm,n⟩:ah) (l.drop i))):=by
 intro d
 induction d with
 |zero=>
  intro i out b hi ho;rw[List.drop_eq_nil_of_le (by omega)];refine Ev.ends (fun k=>?_);simp only[dJ.l0];rw[if_neg (by omega)];cases b
  ·rw[if_neg (by decide),if_pos (by simp at ho;omega),if_neg (by decide)];rfl
  ·simp
 |succ d ih=>
  intro i out b hi ho;have hil:i<l.length:=by omega
  have ed:l.drop i=l[i]::l.drop (i+1):=List.drop_eq_getElem_cons hil;have er:av l (i:Int)=l[i]:=by unfold av;simp[List.getD_eq_getElem?_getD,hil]
  have hn:=hne l[i] (List.getElem_mem hil)
  have oc:∀(k:Nat) (o:List ah) (c:Bool),o.length≤i+2→dJ.j2 (k+1) l o c (i:Int) nm n=dJ.l0 k l (o++[l[i]]) c ((i+1:Nat):Int) nm n:=by
   intro k o c bE;simp only[dJ.j2];rw[if_pos (by omega),if_pos (by omega),er,if_neg hn,if_pos (by omega),gO (n:=l.length) hil (by omega)]
  cases b
  ·cases hc:bn.lt l[i] (⟨nm,n⟩:ah)
   ·
     obtain⟨K,h1⟩:=ih (i+1) (out++[(⟨nm,n⟩:ah)]++[l[i]]) true (by omega) (by simp at ho ⊢;omega);refine⟨K+3,fun k hk=>?_⟩;obtain⟨q,rfl⟩:∃q,k=q+3:=⟨k-3,by omega⟩;have sj:Op.bytesLess l[i].f0.toList nm.toList=false:=hc;have h2:=h1 q (by omega);simp only[dJ.l0,dJ.j1];rw[if_pos (by omega),if_neg (by decide),if_pos (by omega),er,sj,if_pos (by decide),if_pos (by simp at ho;omega),oc q _ _ (by simp at ho ⊢;omega)];refine h2.trans ?_;rw[ed,if_pos rfl,if_neg (by decide)];unfold mT;rw[if_neg (by rw[hc];decide)];simp
   ·obtain⟨K,h1⟩:=ih (i+1) (out++[l[i]]) false (by omega) (by simp at ho ⊢;omega);refine⟨K+3,fun k hk=>?_⟩;obtain⟨q,rfl⟩:∃q,k=q+3:=⟨k-3,by omega⟩;have sj:Op.bytesLess l[i].f0.toList nm.toList=true:=hc;have h2:=h1 q (by omega);simp only[dJ.l0,dJ.j1];rw[if_pos (by omega),if_neg (by decide),if_pos (by omega),er,sj,if_neg (by decide),oc q _ _ (by simp at ho ⊢;omega)];refine h2.trans ?_;rw[ed,if_neg (by decide),if_neg (by decide)]
    conv=>rhs;unfold mT
    rw[if_pos hc];simp
  ·obtain⟨K,h1⟩:=ih (i+1) (out++[l[i]]) true (by omega) (by simp at ho ⊢;omega);refine⟨K+3,fun k hk=>?_⟩;obtain⟨q,rfl⟩:∃q,k=q+3:=⟨k-3,by omega⟩;have h2:=h1 q (by omega);simp only[dJ.l0,dJ.j1];rw[if_pos (by omega),if_pos trivial,if_neg (by decide),oc q _ _ (by simp at ho ⊢;omega)];refine h2.trans ?_;rw[ed];simp
theorem aou (l:List ah) (nm:ByteArray) (n:Int) (hl:l.length≤1048576) (hne:∀x ∈ l,x.f0.toList≠nm.toList):Ev (fun k=>dJ.f k l nm n) (mT (⟨nm,n⟩:ah) l):=by
 refine Ev.congr (fun k=>?_) (aov l nm n hl hne l.length 0 [] false (by omega) (by simp));simp only[dJ.f];rfl
def FN (ds:List aj) (ns ss:List ah) (nx:Int) (nm:ByteArray):lH:=
 if gf (b8 ds ns ss nx) ns nm=1 then (ds,ns,ss,nx,1) else if gf (b8 ds ns ss nx) ns nm=0 then (ds,ns,ss,nx,3) else mN ds ns ss nx (ds++[(⟨nx,[],0⟩:aj)]) (mT (⟨nm,nx⟩:ah) ns) ss (wrap64 (nx+1))
theorem ah0 {ds:List aj} {ns ss:List ah} {nx:Int} {nm:ByteArray} (h1:gf (b8 ds ns ss nx) ns nm≠1):b8 ds ns ss nx=true∧ja nm=true:=by
 unfold gf at h1;split at h1
 ·rename_i h;rw[Bool.and_eq_true]at h;exact h
 ·exact absurd rfl h1
theorem ahY {ds:List aj} {ns ss:List ah} {nx:Int} {nm:ByteArray} (h1:gf (b8 ds ns ss nx) ns nm≠1) (h0:gf (b8 ds ns ss nx) ns nm≠0):nameAt ns nm<0:=by
 unfold gf at h1 h0;split at h1
 ·rename_i h;rw[if_pos h]at h0;split at h0
  ·assumption
  ·exact absurd rfl h0
 ·exact absurd rfl h1
theorem aic {ds:List aj} {ns ss:List ah} {nx:Int} {nm:ByteArray} (h:Small ds ns ss) (hok:b8 ds ns ss nx=true) (hn:nm.size≤9223372036854775807):Small (ds++[(⟨nx,[],0⟩:aj)]) (mT (⟨nm,nx⟩:ah) ns) ss:=by
 obtain⟨p1,p2,p3⟩:=y3 hok;have hf:=QD p1 p2 p3;have hl:=KA p2;refine⟨by simp;omega,fun x hx=>?_,by rw[ab9];omega,h.h2,fun x hx=>?_,h.z2⟩
 ·rcases List.mem_append.1 hx with h1|h1
  ·exact h.hd x h1
  ·rw[List.mem_singleton.1 h1];exact Nat.zero_le _
 ·rcases DD hx with h1|h1
  ·rw[h1];exact hn
  ·exact h.z1 x h1
theorem apm (ds:List aj) (ns ss:List ah) (nx:Int) (nm:ByteArray) (hn:nm.size≤9223372036854775807) (h:Small ds ns ss):Ev (fun k=>DM.f k ds ns ss nx nm) (FN ds ns ss nx nm):=by
 unfold DM.f FN;refine Ev.bind' (h.Da nx) ?_;refine Ev.bind' (Mc ds ns ss nx nm hn h) ?_;by_cases h1:gf (b8 ds ns ss nx) ns nm=1
 ·simp only[h1,if_true];exact Ev.now _
 by_cases h0:gf (b8 ds ns ss nx) ns nm=0
 ·simp only[h0,if_true];exact Ev.now _
 have g1:ds.length<3518437208883:=by have:=h.h0;omega
 simp only[h1,h0,g1,if_true,if_false];have hok:=(ah0 h1).1;refine Ev.bind' (aou ns nm nx h.h1 (aoy (ahY h1 h0))) ?_;exact Ev.bind' (MB ds ns ss nx _ _ ss _ h (aic h hok hn)) (Ev.now _)
def Ul (ds:List aj) (m:Nat):List aj:=ds.set m (⟨(aa ds (m:Int)).f0,(aa ds (m:Int)).f1,((aa ds (m:Int)).f1.length:Int)⟩:aj)
def BZ (ds:List aj) (ns ss:List ah) (nx:Int) (nm:ByteArray):lH:=if gf (b8 ds ns ss nx) ns nm=0 then (Ul ds (js ds (jY ns nm)).toNat,ns,ss,nx,0) else (ds,ns,ss,nx,gf (b8 ds ns ss nx) ns nm)
theorem X2 {ds:List aj} {ns ss:List ah} {nx:Int} {nm:ByteArray} (hc:gf (b8 ds ns ss nx) ns nm=0):b8 ds ns ss nx=true∧ja nm=true∧∃j m,j<ns.length∧nameAt ns nm=(j:Int)∧jY ns nm=(av ns (j:Int)).f1∧jY ns nm≠0∧m<ds.length∧js ds (jY ns nm)=(m:Int):=by
 unfold gf at hc;cases hok:b8 ds ns ss nx
 ·rw[hok]at hc;simp at hc
 rw[hok,Bool.true_and]at hc;cases hno:ja nm
 ·rw[hno]at hc;simp at hc
 rw[hno,if_pos rfl]at hc
 rcases DH hok nm with ⟨c1,_⟩|⟨j,m,c1,c2,c3,c4,c5,c6,_⟩
 ·rw[if_pos (by omega)]at hc;simp at hc
 ·exact⟨rfl,rfl,j,m,c1,c2,c3,c4,c5,by rw[c3];exact c6⟩
theorem apq (ds:List aj) (ns ss:List ah) (nx:Int) (nm:ByteArray) (hn:nm.size≤9223372036854775807) (h:Small ds ns ss):Ev (fun k=>lC.f k ds ns ss nx nm) (BZ ds ns ss nx nm):=by
 unfold lC.f BZ;refine Ev.bind' (h.Da nx) ?_;refine Ev.bind' (Mc ds ns ss nx nm hn h) ?_;by_cases hc:gf (b8 ds ns ss nx) ns nm=0
 ·obtain⟨_,_,j,m,c1,c2,c3,c4,c5,c6⟩:=X2 hc;simp only[hc,if_true];refine Ev.bind' (Mb ns nm h.h1) ?_;have g1:(0≤nameAt ns nm)=True:=eq_true (by omega);have g2:(nameAt ns nm<(ns.length:Int))=True:=eq_true (by omega);simp only[g1,g2,if_true];refine Ev.bind' (Ta ds ns ss nx h.h0 _) ?_;rw[c2,←c3,c6];have g3:(0≤(m:Int))=True:=eq_true (by omega);have g4:((m:Int)<(ds.length:Int))=True:=eq_true (by omega);simp only[g3,g4,if_true];exact Ev.now _
 ·simp only[hc,if_false];exact Ev.now _
def DO (ds:List aj) (ns ss:List ah) (nx:Int):lH:=if b8 ds ns ss nx=true then mN ds ns ss nx ds ns ns nx else (ds,ns,ss,nx,1)
theorem apo (ds:List aj) (ns ss:List ah) (nx:Int) (h:Small ds ns ss):Ev (fun k=>DN.f k ds ns ss nx) (DO ds ns ss nx):=by
 have hS:Small ds ns ns:=⟨h.h0,h.hd,h.h1,h.h1,h.z1,h.z1⟩;have hc:(0+ns.length<5864062014805)=True:=eq_true (by have:=h.h1;omega);unfold DN.f DO;refine Ev.bind' (h.Da nx) ?_;refine Ev.bind' (h.spec nx) ?_;cases b8 ds ns ss nx
 ·simp only[Bool.false_eq_true,if_false];exact Ev.now _
 ·simp only[if_true,Option.bind_some,List.nil_append,List.length_nil,hc];exact Ev.bind' (MB ds ns ss nx ds ns ns nx h hS) (Ev.now _)
def renamed (ns:List ah) (a b:ByteArray):List ah:=mT (⟨b,jY ns a⟩:ah) (gG (gG ns a) b)
def rz (ds:List aj) (ns ss:List ah) (nx:Int) (a b:ByteArray):lH:=
 if gf (b8 ds ns ss nx) ns a=1∨ja b=false then (ds,ns,ss,nx,1) else if gf (b8 ds ns ss nx) ns a=0 then (if a.toList=b.toList then (ds,ns,ss,nx,0) else mN ds ns ss nx ds (renamed ns a b) ss nx) else (ds,ns,ss,nx,gf (b8 ds ns ss nx) ns a)
theorem UW {ns:List ah} (nm:ByteArray) (h:ns.Pairwise uE):(gG ns nm).Pairwise uE:=by rw[Nd];exact h.filter _
theorem UU (ns:List ah) (nm:ByteArray):∀x ∈ gG ns nm,x.f0.toList≠nm.toList:=by
 intro x hx;rw[Nd]at hx;simpa using (List.mem_filter.1 hx).2
theorem aol {ds:List aj} {ns ss:List ah} {nx:Int} (h:td ds ns ss nx=true):kept ds ns ss=ds:=by
 have hm:(List.range ds.length).map (fun (i:Nat)=>aa ds (i:Int))=ds:=by
  refine List.ext_getElem (by simp) (fun i h1 h2=>?_);rw[List.getElem_map,List.getElem_range];unfold aa;simp[List.getD_eq_getElem?_getD,h2]
 unfold kept;rw[List.filter_eq_self.2 (fun i hi=>?_),hm];have hb:=xN h i (by simpa using hi);unfold oQ at hb;simp only[Bool.or_eq_false_iff,Bool.and_eq_false_iff,Bool.not_eq_false']at hb;rw[Bool.or_eq_true]
 rcases hb.2 with h1|h1
 ·exact .inl h1
 ·exact .inr h1
theorem ahW {ds:List aj} {ns ss:List ah} {nx:Int} {a:ByteArray} (h:gf (b8 ds ns ss nx) ns a=0):b8 ds ns ss nx=true∧¬nameAt ns a<0:=by
 unfold gf at h;split at h
 ·rename_i h1;rw[Bool.and_eq_true]at h1;split at h
  ·exact absurd h (by decide)
  ·exact⟨h1.1,by assumption⟩
 ·exact absurd h (by decide)
theorem acE {ds:List aj} {ns ss:List ah} {nx:Int} {a b:ByteArray} (h:Small ds ns ss) (hok:b8 ds ns ss nx=true) (hn:b.size≤9223372036854775807):Small ds (renamed ns a b) ss:=by
 obtain⟨p1,p2,p3⟩:=y3 hok;have hl:=KA p2;refine⟨h.h0,h.hd,?_,h.h2,fun x hx=>?_,h.z2⟩
 ·unfold renamed;rw[ab9];have h1:=zQ (gG ns a) b;have h2:=zQ ns a;omega
 ·rcases DD hx with h1|h1
  ·rw[h1];exact hn
  ·exact h.z1 x (Ck (Ck h1))
def sm (ds:List aj) (ns ss:List ah) (nx:Int) (nm:ByteArray):lH:=if gf (b8 ds ns ss nx) ns nm=0 then mN ds ns ss nx ds (gG ns nm) ss nx else (ds,ns,ss,nx,gf (b8 ds ns ss nx) ns nm)
def Fl (ds:List aj) (m:Nat) (b:List Int):List aj:=ds.set m (⟨(aa ds (m:Int)).f0,(aa ds (m:Int)).f1++b,(aa ds (m:Int)).f2⟩:aj)
theorem ahe {ds:List aj} {ns ss:List ah} (h:Small ds ns ss) (hd:∀x ∈ ds,x.f1.length≤1048576) (m:Nat) (b:List Int) (hb:b.length≤1048600) (hm:m<ds.length):Small (Fl ds m b) ns ss:=by
 refine⟨by unfold Fl;rw[List.length_set];exact h.h0,fun x hx=>?_,h.h1,h.h2,h.z1,h.z2⟩
 rcases List.mem_or_eq_of_mem_set hx with h1|h1
 ·exact h.hd x h1
 ·rw[h1];show ((aa ds (m:Int)).f1++b).length≤4194304;rw[List.length_append];have:=hd _ (vX hm);omega
def Ay (ds:List aj) (ns ss:List ah) (nx:Int) (nm:ByteArray) (b:List Int):lH:=if gf (b8 ds ns ss nx) ns nm=0 then mN ds ns ss nx (Fl ds (js ds (jY ns nm)).toNat b) ns ss nx else (ds,ns,ss,nx,gf (b8 ds ns ss nx) ns nm)
theorem ahZ {ds:List aj} {ns ss:List ah} {nx:Int} {nm:ByteArray} (hc:gf (b8 ds ns ss nx) ns nm=0):b8 ds ns ss nx=true∧jY ns nm≠0:=by
 unfold gf at hc;cases hok:b8 ds ns ss nx
 ·rw[hok]at hc;simp at hc
 ·refine⟨rfl,fun hid=>?_⟩
  rcases DH hok nm with ⟨c1,c2⟩|⟨j,m,c1,c2,c3,c4,_⟩
  ·rw[hok,Bool.true_and,if_pos (show nameAt ns nm<0 by omega)]at hc;split at hc<;>simp at hc
  ·exact c4 hid
theorem apl (ds:List aj) (ns ss:List ah) (nx:Int) (nm:ByteArray) (b:List Int) (hn:nm.size≤9223372036854775807) (h:Small ds ns ss) (hd:∀x ∈ ds,x.f1.length≤1048576) (hb:b.length≤1048600):Ev (fun k=>lB.f k ds ns ss nx nm b) (Ay ds ns ss nx nm b):=by
 unfold lB.f Ay;refine Ev.bind' (h.Da nx) ?_;refine Ev.bind' (Mc ds ns ss nx nm hn h) ?_;by_cases hc:gf (b8 ds ns ss nx) ns nm=0
 ·obtain⟨hok,hid⟩:=ahZ hc;obtain⟨j,m,c1,c2,c3,c5,c6⟩:=ah4 hok hid;simp only[hc,if_true];refine Ev.bind' (Mb ns nm h.h1) ?_;have g1:(0≤nameAt ns nm)=True:=eq_true (by omega);have g2:(nameAt ns nm<(ns.length:Int))=True:=eq_true (by omega);simp only[g1,g2,if_true];refine Ev.bind' (Ta ds ns ss nx h.h0 _) ?_;rw[c2,←c3,c6];have g3:(0≤(m:Int))=True:=eq_true (by omega);have g4:((m:Int)<(ds.length:Int))=True:=eq_true (by omega);have g5:((aa ds (m:Int)).f1.length+b.length<140737488355328)=True:=eq_true (by have:=hd _ (vX c5);omega);simp only[g3,g4,g5,if_true];exact Ev.bind' (MB ds ns ss nx _ ns ss nx h (ahe h hd m b hb c5)) (Ev.now _)
 ·simp only[hc,if_false];exact Ev.now _
theorem api {β γ:Type} (L:Nat→List β→Nat→Option γ) (l:List β) (z:β) (G:β→β) (fin:List β→γ)
 (hs:∀(i:Nat) (out:List β) (r:γ),i<l.length→out.length=l.length→out.getD i z=l.getD i z→Ev (fun k=>L k (out.set i (G (l.getD i z))) (i+1)) r→Ev (fun k=>L k out i) r)
 (he:∀out:List β,out.length=l.length→Ev (fun k=>L k out l.length) (fin out)):Ev (fun k=>L k l 0) (fin (l.map G)):=by
 have key:∀(d i:Nat) (out:List β),i+d=l.length→out.length=l.length→out.take i=(l.map G).take i→(∀j,i≤j→out.getD j z=l.getD j z)→Ev (fun k=>L k out i) (fin (l.map G)):=by
  intro d
  induction d with
  |zero=>
   intro i out hi hl ht _;have hin:i=l.length:=by omega
   subst hin
   have e:out=l.map G:=by
    rw[List.take_of_length_le (by omega),List.take_of_length_le (by simp)]at ht;exact ht
   rw[←e];exact he out hl
  |succ d ih=>
   intro i out hi hl ht hg;refine hs i out _ (by omega) hl (hg i (Nat.le_refl _)) (ih (i+1) _ (by omega) (by simp[hl]) ?_ (fun j hj=>?_))
   ·rw[apH _ _ _ (by omega),ht,List.take_succ_eq_append_getElem (by simp;omega),List.getElem_map,List.getD_eq_getElem?_getD,List.getElem?_eq_getElem (by omega)];rfl
   ·rw[←hg j (by omega),List.getD_eq_getElem?_getD,List.getElem?_set_ne (by omega),List.getD_eq_getElem?_getD]
 exact key l.length 0 l (by omega) rfl rfl (fun _ _=>rfl)
def mg (keep:Int) (x:aj):aj:=
 if keep<(x.f1.length:Int)-x.f2 then (⟨x.f0,x.f1.take (x.f2+keep).toNat,x.f2+keep⟩:aj) else (⟨x.f0,x.f1,(x.f1.length:Int)⟩:aj)
def pc (ok:Bool) (ds:List aj) (ns ss:List ah) (nx:Int) (keep:Int):List aj × List ah × List ah × Int:=
 if ok=true∧0≤keep then (((List.range ds.length).filter (fun (i:Nat)=>named ss (aa ds (i:Int)).f0)).map (fun (i:Nat)=>mg keep (aa ds (i:Int))),ss,ss,nx) else (ds,ns,ss,nx)
def QM (x:aj):Prop:=0≤x.f2∧x.f2≤(x.f1.length:Int)∧x.f1.length≤1048576
theorem an6 (ds:List aj) (ns ss:List ah) (nx keep:Int) (h0:ds.length≤1048576) (hd:∀x ∈ ds,x.f1.length≤1048576) (h1:ns.length≤1048576) (h2:ss.length≤1048576) (z1:∀e ∈ ns,e.f0.size≤9223372036854775807) (z2:∀e ∈ ss,e.f0.size≤9223372036854775807) (hk:keep≤9223372036854775807):Ev (fun k=>eg.f k ds ns ss nx keep) (pc (b8 ds ns ss nx) ds ns ss nx keep):=by
 have copy:Ev (fun k=>eg.j0 k keep true ds ns ss nx) (ds,ns,ss,nx):=by
  obtain⟨K,e⟩:=Yc ds ns ss nx h0 (fun x hx=>Nat.le_trans (hd x hx) (by decide)) h1 h2;dsimp only at e;refine Ev.round (f:=fun _=>some _) ⟨K,fun k hk=>?_⟩ (Ev.now _);simp only[eg.j0];rw[if_pos trivial,e k hk,Option.bind_some]
 refine Ev.bind' (L3 ds ns ss nx h0 (fun x hx=>Nat.le_trans (hd x hx) (by decide)) h1 h2 z1 z2) ?_;unfold pc;cases hok:b8 ds ns ss nx
 ·rw[if_neg (by simp)];exact Ev.congr (fun k=>by rw[if_neg (by decide)]) copy
 by_cases hneg:keep<0
 ·rw[if_neg (fun h=>by have:=h.2;omega)];exact Ev.congr (fun k=>by rw[if_pos rfl,decide_eq_true hneg]) copy
 rw[if_pos ⟨rfl,by omega⟩];have hino:=(y3 hok).1;have hgood:∀i,i<ds.length→QM (aa ds (i:Int)):=fun i hi=>⟨(It (xN hino i hi)).2.1,(It (xN hino i hi)).2.2,hd _ (vX hi)⟩
 have loop:=AQ (fun k out i=>eg.l0 k keep ds (ds.length:Int) (i:Int) ds ns ss nx out ss ss nx) ds.length (fun (i:Nat)=>named ss (aa ds (i:Int)).f0) (fun (i:Nat)=>mg keep (aa ds (i:Int))) (fun out=>(out,ss,ss,nx)) (fun i out r hi ho hp h=>?_) (fun i out r hi ho hp h=>?_) (fun out ho=>?_)
 ·refine Ev.step (f:=fun k=>eg.l0 k keep ds (ds.length:Int) 0 ds ns ss nx [] ss ss nx) (fun k=>?_) loop;rw[if_pos rfl,decide_eq_false hneg];simp only[eg.j0,List.nil_append,List.length_nil];rw[if_neg (by decide),if_pos (by omega)]
 ·obtain⟨g1,g2,g3⟩:=hgood i hi;obtain⟨K,e⟩:=xn ss h2 (aa ds (i:Int)).f0;rw[hp]at e;dsimp only at e;refine Ev.round ⟨K,fun k Bc=>?_⟩ h;have hw:wrap64 (((aa ds (i:Int)).f1.length:Int)-(aa ds (i:Int)).f2)=((aa ds (i:Int)).f1.length:Int)-(aa ds (i:Int)).f2:=pQ (by omega) (by omega);simp only[eg.l0,rm.f,hw,List.nil_append,List.length_nil];rw[if_pos (by omega),if_pos (by omega),if_pos (by omega),e k Bc,Option.bind_some,if_pos rfl];by_cases hc:keep<((aa ds (i:Int)).f1.length:Int)-(aa ds (i:Int)).f2
  ·have hm:mn keep (((aa ds (i:Int)).f1.length:Int)-(aa ds (i:Int)).f2)=keep:=by unfold mn;split<;>omega
   have hf:mg keep (aa ds (i:Int))=(⟨(aa ds (i:Int)).f0,(aa ds (i:Int)).f1.take ((aa ds (i:Int)).f2+keep).toNat,(aa ds (i:Int)).f2+keep⟩:aj):=by unfold mg;rw[if_pos hc]
   rw[hm,hf,pQ (by omega) (by omega),if_pos (by omega),if_pos (by omega),if_pos (by rw[List.length_take];omega),Option.bind_some,if_pos (by omega),gO (n:=ds.length) hi (by omega)]
  ·have hm:mn keep (((aa ds (i:Int)).f1.length:Int)-(aa ds (i:Int)).f2)=((aa ds (i:Int)).f1.length:Int)-(aa ds (i:Int)).f2:=by unfold mn;split<;>omega
   have hf:mg keep (aa ds (i:Int))=(⟨(aa ds (i:Int)).f0,(aa ds (i:Int)).f1,((aa ds (i:Int)).f1.length:Int)⟩:aj):=by unfold mg;rw[if_neg hc]
   have hs:(aa ds (i:Int)).f2+(((aa ds (i:Int)).f1.length:Int)-(aa ds (i:Int)).f2)=((aa ds (i:Int)).f1.length:Int):=by omega
   rw[hm,hs,hf,pQ (by omega) (by omega),if_pos (by omega),if_pos (by omega),Int.toNat_natCast,List.take_length,if_pos (by omega),Option.bind_some,if_pos (by omega),gO (n:=ds.length) hi (by omega)]
 ·obtain⟨K,e⟩:=xn ss h2 (aa ds (i:Int)).f0;rw[hp]at e;dsimp only at e;refine Ev.round ⟨K,fun k Bc=>?_⟩ h;simp only[eg.l0];rw[if_pos (by omega),if_pos (by omega),if_pos (by omega),e k Bc,Option.bind_some,if_neg (by decide),gO (n:=ds.length) hi (by omega)]
 ·refine Ev.ends (fun k=>?_);simp only[eg.l0];rw[if_neg (by omega)]
theorem aor (ds:List aj) (ss:List ah) (nx:Int) (h0:ds.length≤1048576) (h2:ss.length≤1048576):Ev (fun k=>fe.f k ds ss ss nx) (((List.range ds.length).filter (fun (i:Nat)=>named ss (aa ds (i:Int)).f0)).map (fun (i:Nat)=>aa ds (i:Int)),ss,ss,nx):=by
 have body:∀i,i<ds.length→∀out,∃K,∀k,K≤k→fe.l0 (k+1) out (i:Int) ds ss ss nx=fe.j1 k out (i:Int) (named ss (aa ds (i:Int)).f0) ds ss ss nx:=by
  intro i hi out;obtain⟨K,e⟩:=IB ss h2 (aa ds (i:Int)).f0;dsimp only at e;refine⟨K,fun k hk=>?_⟩;simp only[fe.l0];rw[if_pos (by omega),if_pos (by omega),e k hk,Option.bind_some];cases named ss (aa ds (i:Int)).f0
  ·rw[if_neg (by decide),Option.bind_some]
  ·rw[if_pos rfl]
 refine Ev.congr (fun k=>?_) (AQ (fun k out i=>fe.l0 k out (i:Int) ds ss ss nx) ds.length _ _ (fun out=>(out,ss,ss,nx)) (fun i out r hi ho hp h=>?_) (fun i out r hi ho hp h=>?_) (fun out ho=>?_))
 ·simp only[fe.f];rfl
 ·refine Ev.round (body i hi out) (Ev.step (fun k=>?_) h);simp only[fe.j1,hp];rw[if_pos trivial,if_pos (by omega),if_pos (by omega),if_pos (by omega),gO (n:=ds.length) hi (by omega)]
 ·refine Ev.round (body i hi out) (Ev.step (fun k=>?_) h);simp only[fe.j1,hp];rw[if_neg (by decide),gO (n:=ds.length) hi (by omega)]
 ·refine Ev.ends (fun k=>?_);simp only[fe.l0];rw[if_neg (by omega)]
theorem apn (ds:List aj) (ns ss:List ah) (nx keep:Int) (h0:ds.length≤1048576) (hd:∀x ∈ ds,x.f1.length≤1048576) (h1:ns.length≤1048576) (h2:ss.length≤1048576) (z1:∀e ∈ ns,e.f0.size≤9223372036854775807) (z2:∀e ∈ ss,e.f0.size≤9223372036854775807) (hk:keep≤9223372036854775807):Ev (fun k=>dU.f k ds ns ss nx keep) (pc (b8 ds ns ss nx) ds ns ss nx keep):=by
 have copy:Ev (fun k=>dU.j0 k keep true ds ns ss nx) (ds,ns,ss,nx):=by
  refine Ev.ends (fun k=>?_);simp only[dU.j0];rw[if_pos trivial]
 refine Ev.bind' (ach ds ns ss nx h0 (fun x hx=>Nat.le_trans (hd x hx) (by decide)) h1 h2) ?_;refine Ev.bind' (acS ds ns ss nx h0 (fun x hx=>Nat.le_trans (hd x hx) (by decide)) h1 h2 z1 z2) ?_;unfold pc;cases hok:b8 ds ns ss nx
 ·rw[if_neg (by simp)];exact Ev.congr (fun k=>by rw[if_neg (by decide)]) copy
 by_cases hneg:keep<0
 ·rw[if_neg (fun h=>by have:=h.2;omega)];exact Ev.congr (fun k=>by rw[if_pos rfl,decide_eq_true hneg]) copy
 rw[if_pos ⟨rfl,by omega⟩];have hino:=(y3 hok).1;have hgood:∀i,i<ds.length→QM (aa ds (i:Int)):=fun i hi=>⟨(It (xN hino i hi)).2.1,(It (xN hino i hi)).2.2,hd _ (vX hi)⟩
 obtain⟨K,e⟩:=aor ds ss nx h0 h2;dsimp only at e
 have hlk:(((List.range ds.length).filter (fun (i:Nat)=>named ss (aa ds (i:Int)).f0)).map (fun (i:Nat)=>aa ds (i:Int))).length≤1048576:=by
  rw[List.length_map];exact Nat.le_trans (List.length_filter_le _ _) (by simpa using h0)
 have hgk:∀x ∈ (((List.range ds.length).filter (fun (i:Nat)=>named ss (aa ds (i:Int)).f0)).map (fun (i:Nat)=>aa ds (i:Int))),QM x:=by
  intro x hx;obtain⟨i,hi,rfl⟩:=List.mem_map.1 hx;exact hgood i (by simpa using (List.mem_filter.1 hi).1)
 have hcomp:((List.range ds.length).filter (fun (i:Nat)=>named ss (aa ds (i:Int)).f0)).map (fun (i:Nat)=>mg keep (aa ds (i:Int)))=(((List.range ds.length).filter (fun (i:Nat)=>named ss (aa ds (i:Int)).f0)).map (fun (i:Nat)=>aa ds (i:Int))).map (mg keep):=by
  rw[List.map_map];rfl
 rw[hcomp];generalize (((List.range ds.length).filter (fun (i:Nat)=>named ss (aa ds (i:Int)).f0)).map (fun (i:Nat)=>aa ds (i:Int)))=l at e hlk hgk
 have loop:=api (fun k out i=>dU.l0 k keep (i:Int) out ss ss nx) l z80 (mg keep) (fun out=>(out,ss,ss,nx)) (fun i out r hi ho hg h=>?_) (fun out ho=>?_)
 ·refine Ev.round (f:=fun k=>dU.l0 k keep 0 l ss ss nx) ⟨K,fun k Bc=>?_⟩ loop;rw[if_pos rfl,decide_eq_false hneg];simp only[dU.j0,Option.bind_some,List.nil_append,List.length_nil];rw[if_neg (by decide),if_pos (by omega),e k Bc,Option.bind_some]
 ·have hrd:aa out (i:Int)=aa l (i:Int):=hg;obtain⟨g1,g2,g3⟩:=hgk _ (vX hi);have hw:wrap64 (((aa l (i:Int)).f1.length:Int)-(aa l (i:Int)).f2)=((aa l (i:Int)).f1.length:Int)-(aa l (i:Int)).f2:=pQ (by omega) (by omega);have hgl:l.getD i z80=aa l (i:Int):=rfl;rw[hgl]at h;refine Ev.step (fun k=>?_) h;simp only[dU.l0,hrd,hw,Option.bind_some,Int.toNat_natCast];rw[if_pos (by omega),if_pos (by omega)];by_cases hc:keep<((aa l (i:Int)).f1.length:Int)-(aa l (i:Int)).f2
  ·have hf:mg keep (aa l (i:Int))=(⟨(aa l (i:Int)).f0,(aa l (i:Int)).f1.take ((aa l (i:Int)).f2+keep).toNat,(aa l (i:Int)).f2+keep⟩:aj):=by unfold mg;rw[if_pos hc]
   have hset:∀y:aj,aa (out.set i y) (i:Int)=y:=by
    intro y;show (out.set i y).getD i z80=y;rw[List.getD_eq_getElem?_getD,List.getElem?_set_self (by omega)];rfl
   rw[if_pos hc,pQ (by omega) (by omega),if_pos (by omega),if_pos (by omega),hset,List.set_set,hf,gO (n:=l.length) hi (by omega)];congr 3;rw[List.length_take];omega
  ·have hf:mg keep (aa l (i:Int))=(⟨(aa l (i:Int)).f0,(aa l (i:Int)).f1,((aa l (i:Int)).f1.length:Int)⟩:aj):=by unfold mg;rw[if_neg hc]
   rw[if_neg hc,hf,gO (n:=l.length) hi (by omega)]
 ·refine Ev.ends (fun k=>?_);simp only[dU.l0];rw[if_neg (by omega)]
def oM (ok:Bool) (ds:List aj) (ns:List ah) (nm:ByteArray):List Int × Bool:=
 if ok=true∧0≤nameAt ns nm then ((aa ds (js ds (av ns (nameAt ns nm)).f1)).f1,true) else ([],false)
theorem ahq (ok:Bool) (ds:List aj) (ns:List ah) (nm:ByteArray) (hd:∀x ∈ ds,x.f1.length≤1048576):(oM ok ds ns nm).1.length≤1048576:=by
 unfold oM;split
 ·show (aa ds _).f1.length≤1048576;unfold aa;rw[List.getD_eq_getElem?_getD];cases hg:ds[(js ds (av ns (nameAt ns nm)).f1).toNat]? with
  |none=>exact Nat.zero_le _
  |some y=>exact hd y (List.mem_of_getElem? hg)
 ·exact Nat.zero_le _
theorem an4 (ds:List aj) (ns ss:List ah) (nx:Int) (nm:ByteArray) (h0:ds.length≤1048576) (hd:∀x ∈ ds,x.f1.length≤1048576) (h1:ns.length≤1048576) (h2:ss.length≤1048576) (z1:∀e ∈ ns,e.f0.size≤9223372036854775807) (z2:∀e ∈ ss,e.f0.size≤9223372036854775807):Ev (fun k=>jM.f k ds ns ss nx nm) (oM (b8 ds ns ss nx) ds ns nm):=by
 obtain⟨K1,e1⟩:=L3 ds ns ss nx h0 (fun x hx=>Nat.le_trans (hd x hx) (by decide)) h1 h2 z1 z2;obtain⟨K3,e3⟩:=S3 ds ns ss nx nm h1;obtain⟨K4,e4⟩:=ab8 ds ns ss nx h0 (jY ns nm);dsimp only at e1 e3 e4;refine⟨K1+K3+K4+1,fun k hk=>?_⟩;obtain⟨q,rfl⟩:∃q,k=q+1:=⟨k-1,by omega⟩;simp only[jM.f];rw[e3 _ (by omega),Option.bind_some,e4 _ (by omega),Option.bind_some,e1 _ (by omega),Option.bind_some];unfold oM;cases hok:b8 ds ns ss nx
 ·rw[if_neg (by decide),if_neg (by simp)];simp only[jM.j0];rfl
 rw[if_pos rfl,Option.bind_some]
 rcases DH hok nm with ⟨c1,c2⟩|⟨j,m,c1,c2,c3,c4,c5,c6,_⟩
 ·rw[if_pos c2,if_neg (by omega)];simp only[jM.j0];rfl
 ·rw[if_neg c4,if_pos (show true=true∧0≤nameAt ns nm from ⟨rfl,by omega⟩),c3,c6,c2,c6];have hm:=hd _ (vX c5);simp only[jM.j0,rm.f];rw[if_neg (by simp),if_pos (by omega),if_pos (by omega),if_pos (by simp only[List.length_nil];omega),List.nil_append];rfl
theorem ajz {β:Type} (L:Nat→List β→Nat→Option (List β)) (n:Nat) (h:Nat→β)
 (hs:∀(i:Nat) (out r:List β),i<n→out.length=i→Ev (fun k=>L k (out++[h i]) (i+1)) r→Ev (fun k=>L k out i) r)
 (he:∀out:List β,out.length=n→Ev (fun k=>L k out n) out):Ev (fun k=>L k [] 0) ((List.range n).map h):=by
 have key:∀(d i:Nat),i+d=n→Ev (fun k=>L k ((List.range i).map h) i) ((List.range n).map h):=by
  intro d
  induction d with
  |zero=>
   intro i hi;have:i=n:=by omega
   subst this;exact he _ (by simp)
  |succ d ih=>
   intro i hi;refine hs i _ _ (by omega) (by simp) ?_;have:=ih (i+1) (by omega);rw[List.range_succ,List.map_append]at this;exact this
 exact key n 0 (by omega)
def Bi (ok:Bool) (ns:List ah):List ByteArray:=if ok=true then (List.range ns.length).map (fun (i:Nat)=>(av ns (i:Int)).f0) else []
theorem an7 (ds:List aj) (ns ss:List ah) (nx:Int) (h0:ds.length≤1048576) (hd:∀x ∈ ds,x.f1.length≤1048576) (h1:ns.length≤1048576) (h2:ss.length≤1048576) (z1:∀e ∈ ns,e.f0.size≤9223372036854775807) (z2:∀e ∈ ss,e.f0.size≤9223372036854775807):Ev (fun k=>pj.f k ds ns ss nx) (Bi (b8 ds ns ss nx) ns):=by
 have loop:Ev (fun k=>pj.l0 k [] ns (ns.length:Int) 0) ((List.range ns.length).map (fun (i:Nat)=>(av ns (i:Int)).f0)):=by
  refine ajz (fun k out i=>pj.l0 k out ns (ns.length:Int) (i:Int)) ns.length _ (fun i out r hi ho h=>?_) (fun out ho=>?_)
  ·refine Ev.step (fun k=>?_) h;simp only[pj.l0];rw[if_pos (by omega),if_pos (by omega),if_pos (by omega),if_pos (by omega),gO (n:=ns.length) hi (by omega)]
  ·refine Ev.ends (fun k=>?_);simp only[pj.l0];rw[if_neg (by omega)]
 refine Ev.bind' (L3 ds ns ss nx h0 (fun x hx=>Nat.le_trans (hd x hx) (by decide)) h1 h2 z1 z2) ?_;unfold Bi;cases b8 ds ns ss nx
 ·exact Ev.all (fun k=>by rw[if_neg (by decide),if_neg (by decide)])
 ·rw[if_pos rfl];exact Ev.congr (fun k=>by rw[if_pos rfl]) loop
end Go.Proofs.Ytgpkdbnikcghgaa.MPD
