/- What is drawn, in plain lists. -/
import Derived.Test.YtgpkdbnikcghgaaMPH
import Derived.Test.YtgpkdbnikcghgaaMDx18
import Derived.Test.YtgpkdbnikcghgaaMDx68
set_option linter.unusedVariables false
set_option linter.unusedSimpArgs false
namespace Go.Proofs.Ytgpkdbnikcghgaa.MPD
open Go.RowKit Go.Proofs.Ytgpkdbnikcghgaa.MD Go.Proofs.YtgpkdbnikcghgaaW.PrintWords Go.Proofs.YtgpkdbnikcghgaaW.PrintLast Go.Proofs.YtgpkdbnikcghgaaW.PrintMore
def Both {α:Type} (P:α→Prop) (f g:Nat→Option α):Prop:=∃r,P r∧Ev f r∧Ev g r
namespace Both
variable {α β:Type} {P:α→Prop} {f f' g g':Nat→Option α}
theorem step (h1:∀k,f (k+1)=f' k) (h2:∀k,g (k+1)=g' k) (h:Both P f' g'):Both P f g:=by
 obtain⟨r,hp,a,b⟩:=h;exact⟨r,hp,Ev.step h1 a,Ev.step h2 b⟩
theorem ret (r:α) (h:P r):Both P (fun _=>some r) (fun _=>some r):=⟨r,h,Ev.now r,Ev.now r⟩
theorem ite {c:Prop} [Decidable c] (h1:c→Both P f g) (h2:¬c→Both P f' g'):Both P (fun k=>if c then f k else f' k) (fun k=>if c then g k else g' k):=by
 by_cases h:c
 ·simpa only [if_pos h] using h1 h
 ·simpa only [if_neg h] using h2 h
theorem bind {Q:β→Prop} {p q:Nat→Option β} {F G:Nat→β→Option α} (h:Both Q p q) (k:∀b,Q b→Both P (fun n=>F n b) (fun n=>G n b)):Both P (fun n=>(p n).bind (F n)) (fun n=>(q n).bind (G n)):=by
 obtain⟨b,hq,h1,h2⟩:=h;obtain⟨r,hp,a,c⟩:=k b hq;exact⟨r,hp,Ev.bind h1 a,Ev.bind h2 c⟩
theorem any {Q:α→Prop} (h:Both Q f g):Both (fun _=>True) f g:=by
 obtain⟨r,_,a,b⟩:=h;exact⟨r,trivial,a,b⟩
end Both
def Comes {α:Type} (P:α→Prop) (f:Nat→Option α):Prop:=∃r,P r∧Ev f r
namespace Comes
variable {α β:Type} {P:α→Prop} {f f':Nat→Option α}
theorem step (h1:∀k,f (k+1)=f' k) (h:Comes P f'):Comes P f:=by
 obtain⟨r,hp,a⟩:=h;exact⟨r,hp,Ev.step h1 a⟩
theorem ret (r:α) (h:P r):Comes P (fun _=>some r):=⟨r,h,Ev.now r⟩
theorem ite {c:Prop} [Decidable c] (h1:c→Comes P f) (h2:¬c→Comes P f'):Comes P (fun k=>if c then f k else f' k):=by
 by_cases h:c
 ·simpa only [if_pos h] using h1 h
 ·simpa only [if_neg h] using h2 h
theorem bind {Q:β→Prop} {p:Nat→Option β} {F:Nat→β→Option α} (h:Comes Q p) (k:∀b,Q b→Comes P (fun n=>F n b)):Comes P (fun n=>(p n).bind (F n)):=by
 obtain⟨b,hq,h1⟩:=h;obtain⟨r,hp,a⟩:=k b hq;exact⟨r,hp,Ev.bind h1 a⟩
end Comes
theorem ahf (n:Int):Go.bits .and .i64 n 255=n % 256:=by
 have ajA:(BitVec.ofInt 64 255).toNat=2 ^ 8-1:=by decide
 have key:(BitVec.ofInt 64 n &&& BitVec.ofInt 64 255).toNat=(n % ((2 ^ 64:Nat):Int)).toNat % 2 ^ 8:=by
  rw[BitVec.toNat_and,BitVec.toNat_ofInt,ajA,Nat.and_two_pow_sub_one_eq_mod]
 show IntKind.i64.wrap ((BitVec.ofInt 64 n &&& BitVec.ofInt 64 255).toNat:Nat)=n % 256;rw[key,IntKind.wrap_i64];omega
def At (b:List Int) (i:Int):Prop:=0≤i∧i≤(b.length:Int)
theorem IA (b:List Int) (i x:Int) (hb:b.length≤1048576) (hi:At b i):∃v j y,na.f b i x=some (v,j,y)∧0≤v∧v≤255∧At b j:=by
 unfold At at hi ⊢;simp only[na.f,ahf];by_cases h:i<(b.length:Int)
 ·rw[if_pos h,if_pos hi.1,pQ (i:=i+1) (by omega) (by omega)];exact⟨_,_,_,rfl,by omega,by omega,by omega⟩
 ·rw[if_neg h];exact⟨_,_,_,rfl,by omega,by omega,hi⟩
theorem Ma (b:List Int) (i x n:Int) (hb:b.length≤1048576) (hi:At b i):∃v j y,ot.f b i x n=some (v,j,y)∧0≤v∧(0<n→v<n)∧(n≤0→v=0)∧At b j:=by
 simp only[ot.f];by_cases h0:n≤0
 ·rw[if_pos h0];exact⟨_,_,_,rfl,by omega,by omega,fun _=>rfl,hi⟩
 ·rw[if_neg h0];have hp:0<n:=by omega
  have hn:¬n=0:=by omega
  by_cases h1:n≤256
  ·rw[if_pos h1];obtain⟨v,j,y,e,v0,v1,hj⟩:=IA b i x hb hi;simp only[e,Option.bind_some];rw[if_neg hn,Int.tmod_eq_emod_of_nonneg v0];exact⟨_,_,_,rfl,Int.emod_nonneg _ hn,fun _=>Int.emod_lt_of_pos _ hp,fun h=>absurd h h0,hj⟩
  ·rw[if_neg h1];obtain⟨v,j,y,e,v0,v1,hj⟩:=IA b i x hb hi;obtain⟨v',j',y',e',v0',v1',hj'⟩:=IA b j y hb hj;obtain⟨v2,j2,y2,e2,v02,v12,oc⟩:=IA b j' y' hb hj';simp only[e,e',e2,Option.bind_some];rw[if_neg hn,pQ (i:=v*65536) (by omega) (by omega),pQ (i:=v'*256) (by omega) (by omega),pQ (i:=v*65536+v'*256) (by omega) (by omega),pQ (i:=v*65536+v'*256+v2) (by omega) (by omega),Int.tmod_eq_emod_of_nonneg (by omega)];exact⟨_,_,_,rfl,Int.emod_nonneg _ hn,fun _=>Int.emod_lt_of_pos _ hp,fun h=>absurd h h0,oc⟩
theorem acf (b:List Int) (i x:Int) (l:List Int) (hb:b.length≤1048576) (hi:At b i) (hl:0<l.length):∃v j y,uL.f b i x l=some (v,j,y)∧v ∈ l∧At b j:=by
 obtain⟨v,j,y,e,v0,v1,_,hj⟩:=Ma b i x (l.length:Int) hb hi;have v1:=v1 (by omega);simp only[uL.f,e,Option.bind_some];rw[if_pos v0,if_pos v1];refine⟨_,_,_,rfl,?_,hj⟩;unfold rd;rw[List.getD_eq_getElem?_getD,List.getElem?_eq_getElem (show v.toNat<l.length by omega)];exact List.getElem_mem _
theorem acg (b:List Int) (i x:Int) (l:List ByteArray) (hb:b.length≤1048576) (hi:At b i) (hl:0<l.length):∃v j y,rB.f b i x l=some (v,j,y)∧v ∈ l∧At b j:=by
 obtain⟨v,j,y,e,v0,v1,_,hj⟩:=Ma b i x (l.length:Int) hb hi;have v1:=v1 (by omega);simp only[rB.f,e,Option.bind_some];rw[if_pos v0,if_pos v1];refine⟨_,_,_,rfl,?_,hj⟩;unfold l8;rw[List.getD_eq_getElem?_getD,List.getElem?_eq_getElem (show v.toNat<l.length by omega)];exact List.getElem_mem _
def kr (b:List Int):Prop:=∀i:Int,0≤rd b i∧rd b i≤255
theorem kr.mem {b:List Int} (h:kr b):∀x ∈ b,0≤x∧x≤255:=by
 intro x hx;obtain⟨i,hi,rfl⟩:=List.mem_iff_getElem.1 hx;have:=h (i:Int);simpa[rd,List.getD_eq_getElem?_getD,List.getElem?_eq_getElem hi] using this
theorem kr.Mj {b:List Int} (h:∀x ∈ b,0≤x∧x≤255):kr b:=by
 intro i;unfold rd;rw[List.getD_eq_getElem?_getD];cases e:b[i.toNat]? with
 |none=>simp
 |some x=>exact h x (List.mem_of_getElem? e)
theorem kr.set {l:List Int} (h:kr l) (i:Nat) (x:Int) (h0:0≤x) (h1:x≤255):kr (l.set i x):=by
 apply kr.Mj;intro y hy
 rcases List.mem_or_eq_of_mem_set hy with hm|rfl
 ·exact h.mem y hm
 ·exact⟨h0,h1⟩
theorem kr.append {l m:List Int} (h:kr l) (h':kr m):kr (l++m):=by
 apply kr.Mj;intro y hy
 rcases List.mem_append.1 hy with hm|hm
 ·exact h.mem y hm
 ·exact h'.mem y hm
theorem kr.nil:kr []:=kr.Mj (by simp)
theorem kr.one {x:Int} (h0:0≤x) (h1:x≤255):kr [x]:=kr.Mj (by intro y hy;rw[List.mem_singleton]at hy;subst hy;exact⟨h0,h1⟩)
theorem aoo (b:List Int) (i x n:Int) (hb:b.length≤1048576) (hi:At b i) (h0:0≤n) (hn:n≤9):Comes (fun r=>kr r.1∧r.1.length≤9∧At b r.2.1) (fun k=>nb.f k b i x n):=by
 obtain⟨m,rfl⟩:=Int.eq_ofNat_of_zero_le h0
 have key:∀(d j:Nat) (out:List Int) (i x:Int),j+d=m→At b i→kr out→out.length=j→Comes (fun r=>kr r.1∧r.1.length≤9∧At b r.2.1) (fun k=>nb.l0 k (m:Int) out (j:Int) b i x):=by
  intro d
  induction d with
  |zero=>
   intro j out i x hj hi ho hl;refine Comes.step (fun k=>nb.l0.eq_2 ..) ?_;have e1:((j:Int)<(m:Int))=False:=eq_false (by omega);simp only[e1,if_false];exact Comes.ret _ ⟨ho,by dsimp only;omega,hi⟩
  |succ d ih=>
   intro j out i x hj hi ho hl;refine Comes.step (fun k=>nb.l0.eq_2 ..) ?_;have e1:((j:Int)<(m:Int))=True:=eq_true (by omega);have ew:wrap64 ((j:Int)+1)=((j+1:Nat):Int):=gO (n:=m) (by omega) (by omega);obtain⟨v,j2,y2,e2,v0,v1,oc⟩:=IA b i x hb hi;have e3:(out.length<140737488355328)=True:=eq_true (by omega);simp only[e1,e2,e3,ew,if_true,Option.bind_some];exact ih (j+1) _ _ _ (by omega) oc (ho.append (kr.one (by omega) (by omega))) (by simp[hl])
 exact key m 0 [] i x (by omega) hi kr.nil rfl
theorem aoq (b:List Int) (i x:Int) (hb:b.length≤1048576) (hi:At b i):Comes (fun r=>kr r.1∧r.1.length≤9∧At b r.2.1) (fun k=>BW.f k b i x):=by
 simp only[BW.f];obtain⟨v,j,y,e,hm,hj⟩:=acf b i x ([0,1,2,5,9]:List Int) hb hi (by simp);simp only[e,Option.bind_some];simp only[List.mem_cons,List.not_mem_nil,or_false]at hm;exact Comes.bind (aoo b j y v hb hj (by omega) (by omega)) (fun r hr=>Comes.ret _ hr)
theorem aop (b:List Int) (hb:b.length≤1048576):Comes (fun r=>r.1=b∧r.2.1=0) (fun k=>kL.f k b):=by
 have key:∀(d i:Nat) (x:Int),i+d=b.length→Comes (fun r=>r.1=b∧r.2.1=0) (fun k=>kL.l0 k b x (i:Int)):=by
  intro d
  induction d with
  |zero=>
   intro i x hi;refine Comes.step (fun k=>kL.l0.eq_2 ..) ?_;have e1:((i:Int)<(b.length:Int))=False:=eq_false (by omega);simp only[e1,if_false];refine Comes.step (fun k=>kL.j1.eq_2 ..) ?_;simp only[Bool.false_eq_true,if_false];exact Comes.ret _ ⟨rfl,rfl⟩
  |succ d ih=>
   intro i x hi;refine Comes.step (fun k=>kL.l0.eq_2 ..) ?_;have e1:((i:Int)<(b.length:Int))=True:=eq_true (by omega);have e2:(0≤(i:Int))=True:=eq_true (by omega);have ew:wrap64 ((i:Int)+1)=((i+1:Nat):Int):=gO (n:=b.length) (by omega) (by omega);simp only[e1,if_true]
   have join:∀q:Bool,Comes (fun r=>r.1=b∧r.2.1=0) (fun k=>kL.j1 k b x (i:Int) q):=by
    intro q;refine Comes.step (fun k=>kL.j1.eq_2 ..) ?_;simp only[e1,e2,if_true,ew];exact Comes.ite (fun _=>ih (i+1) _ (by omega)) (fun _=>Comes.ret _ ⟨rfl,rfl⟩)
   exact join _
 exact key b.length 0 _ (by omega)
theorem ape (l:List Int) (hl:l.length≤1048576):Ev (fun k=>qp.f k l l) true:=by
 refine Ev.congr (fun k=>?_) (apf (fun i k=>qp.l0 k l l (i:Int)) l.length true (fun i hi h=>?_) ?_)
 ·simp only[qp.f];rw[if_pos trivial];rfl
 ·refine Ev.step (fun k=>?_) h;simp only[qp.l0];rw[if_pos (by omega),if_pos (by omega),if_pos (by omega),if_pos trivial,gO (n:=l.length) hi (by omega)]
 ·refine Ev.ends (fun k=>?_);simp only[qp.l0];rw[if_neg (by omega)]
def y4:List ByteArray:=[(⟨#[97]⟩:ByteArray),(⟨#[98]⟩:ByteArray),(⟨#[108,111,103,45,49]⟩:ByteArray),(⟨#[99,117,114]⟩:ByteArray),(⟨#[116,109,112]⟩:ByteArray),(⟨#[120,46,57]⟩:ByteArray)]
theorem Yg (b:List Int) (i x:Int) (hb:b.length≤1048576) (hi:At b i):∃v j y,uM.f b i x=some (v,j,y)∧v ∈ y4∧At b j:=by
 obtain⟨v,j,y,e,hm,hj⟩:=acg b i x y4 hb hi (by decide);exact⟨v,j,y,by unfold uM.f;rw[show ([(⟨#[97]⟩:ByteArray),(⟨#[98]⟩:ByteArray),(⟨#[108,111,103,45,49]⟩:ByteArray),(⟨#[99,117,114]⟩:ByteArray),(⟨#[116,109,112]⟩:ByteArray),(⟨#[120,46,57]⟩:ByteArray)]:List ByteArray)=y4 from rfl,e];rfl,hm,hj⟩
theorem Db {v:ByteArray} (h:v ∈ y4):v.size≤9223372036854775807:=by
 simp only[y4,List.mem_cons,List.not_mem_nil,or_false]at h
 rcases h with rfl|rfl|rfl|rfl|rfl|rfl<;>decide
theorem apj (b:List Int) (hb:b.length≤1048576) (n:Int):∃v,BV.f b n=some v∧(3≤n→3≤v∧v≤n):=by
 have e1:wrap64 ((b.length:Int) / 12)=(b.length:Int) / 12:=pQ (by omega) (by omega);unfold BV.f;rw[e1,pQ (by omega) (by omega)];split
 ·exact⟨_,rfl,fun h=>⟨h,Int.le_refl _⟩⟩
 ·exact⟨_,rfl,fun h=>⟨by omega,by omega⟩⟩
theorem ahk (b:List Int):Mf.f b=some (decide ((b.length:Int)>1048576)):=rfl
end Go.Proofs.Ytgpkdbnikcghgaa.MPD
