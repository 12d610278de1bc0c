import Derived.Test.YtgpkdbnikcghgaaVLast
import Derived.Test.YtgpkdbnikcghgaaVWords
namespace Go.Proofs.YtgpkdbnikcghgaaW.PrintLast
open Go.Proofs.YtgpkdbnikcghgaaW.PrintWords (Aside0)
def TF (md:Region.Mode) (o:Oper):List Nat:=(o.after.toList.filter (fun e=>Region.binds md e)).map (fun e=>e.on)
def agF (md:Region.Mode) (ops:Array Oper) (i:Nat) (oi:Oper):List Nat:=(List.range ops.size).filter fun j=>!(j == i)&&match ops[j]? with
 |some oj=>!(oj.after.any (fun e=>Region.binds md e&&e.on == i) || oi.apart ops oj)
 |none=>false
def kS (md:Region.Mode) (ops:Array Oper):Bool × List (List Nat × List Nat):=(Region.noSelect ops,(List.range ops.size).map fun i=>match ops[i]? with
 |some o=>(TF md o,agF md ops i o)
 |none=>([],[]))
def NJ (T:List (List Nat × List Nat)) (l:List Bool) (i:Nat):Bool:=!l.getD i true&&match T[i]? with
 |some r=>r.1.all (fun j=>l.getD j false)
 |none=>false
def NK (T:List (List Nat × List Nat)) (l:List Bool):List Nat:=(List.range T.length).filter (NJ T l)
def XN (T:List (List Nat × List Nat)) (l:List Bool) (i:Nat):Bool:=match T[i]? with
 |some r=>r.2.all (fun j=>l.getD j true)
 |none=>false
def abZ (T:List (List Nat × List Nat)) (l:List Bool):Bool:=(List.range T.length).all fun j=>!l.getD j false || match T[j]? with
 |some r=>r.1.all (fun k=>l.getD k false)
 |none=>true
def TK (T:List (List Nat × List Nat)) (i:Nat):Nat→Nat→Bool
 |0,_=>false
 |fuel+1,d=>match T[d]? with
  |some r=>r.1.any fun j=>j == i || TK T i fuel j
  |none=>false
def adh (T:List (List Nat × List Nat)) (l:List Bool) (ds:List Nat) (i:Nat):Bool:=ds.all fun d=>l.getD d true || TK T i T.length d
section
variable {md:Region.Mode} {ops:Array Oper} {T:Bool × List (List Nat × List Nat)} {l l' li lj lk:Array Bool} {ds:List Nat} {i j k:Nat}
theorem gd (l:Array Bool) (j:Nat) (b:Bool):l.getD j b=l.toList.getD j b:=by simp[Array.getD_eq_getD_getElem?,List.getD_eq_getElem?_getD]
theorem atA (o:Oper) (p:Nat→Bool):o.after.all (fun e=>!Region.binds md e || p e.on)=(TF md o).all p:=by
 unfold TF;rw[←Array.all_toList]
 induction o.after.toList with
 |nil=>rfl
 |cons e r ih=>
  rw[List.all_cons,ih,List.filter_cons];cases h:Region.binds md e<;>simp
theorem aHz (o:Oper) (p:Nat→Bool):o.after.any (fun e=>Region.binds md e&&p e.on)=(TF md o).any p:=by
 unfold TF;rw[←Array.any_toList]
 induction o.after.toList with
 |nil=>rfl
 |cons e r ih=>
  rw[List.any_cons,ih,List.filter_cons];cases h:Region.binds md e<;>simp
theorem adq:(kS md ops).2.length=ops.size:=by simp[kS]
theorem ads {o:Oper} (h:ops[i]? = some o):(kS md ops).2[i]? = some (TF md o,agF md ops i o):=by
 have hi:=(Array.getElem?_eq_some_iff.1 h).1;unfold kS;rw[List.getElem?_map,List.getElem?_range hi,Option.map_some,h]
theorem adr (h:ops[i]? = none):(kS md ops).2[i]? = none:=by
 have hi:ops.size≤i:=Array.getElem?_eq_none_iff.1 h;exact List.getElem?_eq_none (by rw[adq];exact hi)
theorem aHO:NJ (kS md ops).2 l.toList i=(!l.getD i true&&((ops[i]?).map (·.after.all fun e=>!Region.binds md e || l.getD e.on false)).getD false):=by
 unfold NJ;rw[gd];cases h:ops[i]? with
 |none=>rw[adr h];rfl
 |some o=>
  rw[ads h];simp only[Option.map_some,Option.getD_some];rw[←atA];simp only[gd]
theorem aaz:Region.ready md ops l=NK (kS md ops).2 l.toList:=by
 unfold Region.ready NK;rw[adq];refine List.filter_congr (fun i _=>?_);rw[aHO]
theorem aoA:Region.free md ops l i=XN (kS md ops).2 l.toList i:=by
 unfold Region.free XN;cases h:ops[i]? with
 |none=>rw[adr h]
 |some oi=>
  rw[ads h];simp only[agF];rw[List.all_filter];congr 1;funext j
  rw[gd];cases hj:ops[j]? with
  |none=>cases (j == i)<;>cases (l.toList.getD j true)<;>simp
  |some oj=>
   cases (j == i)<;>cases (l.toList.getD j true)<;>cases (oj.after.any (fun e=>Region.binds md e&&e.on == i) || oi.apart ops oj)<;>simp_all
theorem azi:Region.Xe md ops l=abZ (kS md ops).2 l.toList:=by
 unfold Region.Xe abZ;rw[adq];congr 1;funext j
 rw[gd];cases h:ops[j]? with
 |none=>rw[adr h]
 |some o=>
  rw[ads h];simp only;rw[←atA];simp only[gd]
theorem atG:∀(fuel d:Nat),Region.EH md ops i fuel d=TK (kS md ops).2 i fuel d
 |0,_=>rfl
 |fuel+1,d=>by
  unfold Region.EH TK;cases h:ops[d]? with
  |none=>rw[adr h]
  |some o=>
   rw[ads h];simp only;rw[←aHz];congr 1;funext e
   rw[atG fuel]
theorem aHw:Region.adg md ops l ds i=adh (kS md ops).2 l.toList ds i:=by
 unfold Region.adg adh;rw[adq];congr 1;funext d
 rw[gd,atG]
theorem atJ (h:NJ T.2 l.toList i=true) (hT:kS md ops=T):(Region.ready md ops l).contains i=true:=by
 subst hT;rw[aaz];unfold NK;rw[List.contains_iff_mem,List.mem_filter,List.mem_range];refine⟨?_,h⟩;unfold NJ at h;rw[Bool.and_eq_true]at h;cases hq:(kS md ops).2[i]? with
 |none=>rw[hq]at h;simp at h
 |some r=>exact(List.getElem?_eq_some_iff.1 hq).1
theorem NL (h:(l.toList.set i true == l'.toList)=true):(l.setIfInBounds i true == l')=true:=by
 rw[beq_iff_eq]at h ⊢;apply Array.ext';rw[Array.toList_setIfInBounds];exact h
def abN (T:Bool × List (List Nat × List Nat)) (l l':List Bool) (i:Nat):Bool:=T.1&&XN T.2 l i&&NJ T.2 l i&&(l.set i true == l')
theorem anT (hT:kS md ops=T) (h:abN T l.toList l'.toList i=true):abM md ops l l' i=true:=by
 simp only[abN,Bool.and_eq_true]at h;obtain⟨⟨⟨h1,h2⟩,h3⟩,h4⟩:=h;have h5:=atJ h3 hT;have h6:=NL h4;subst hT;simp only[abM,Bool.and_eq_true];exact⟨⟨⟨h1,by rw[aoA];exact h2⟩,h5⟩,h6⟩
def ala (T:Bool × List (List Nat × List Nat)) (ds:List Nat) (l l':List Bool) (i:Nat):Bool:=T.1&&XN T.2 l i&&NJ T.2 l i&&abZ T.2 l&&adh T.2 l ds i&&(l.set i true == l')
theorem aH7 (hT:kS md ops=T) (h:ala T ds l.toList l'.toList i=true):aaN md ops ds l l' i=true:=by
 simp only[ala,Bool.and_eq_true]at h;obtain⟨⟨⟨⟨⟨h1,h2⟩,h3⟩,h4⟩,h5⟩,h6⟩:=h;have h7:=atJ h3 hT;have h8:=NL h6;subst hT;simp only[aaN,Bool.and_eq_true];exact⟨⟨⟨⟨⟨h1,by rw[aoA];exact h2⟩,h7⟩,by rw[azi];exact h4⟩,by rw[aHw];exact h5⟩,h8⟩
theorem adi (hT:kS md ops=T) (h:(NK T.2 l.toList == [i]&&l.toList.set i true == l'.toList)=true):TL md ops l l' i=true:=by
 simp only[Bool.and_eq_true]at h;obtain⟨h1,h2⟩:=h;subst hT;simp only[TL,Bool.and_eq_true];exact⟨by rw[aaz];exact h1,NL h2⟩
theorem N3 (hT:kS md ops=T) (h:(NK T.2 l.toList == [i,j]&&l.toList.set i true == li.toList&&l.toList.set j true == lj.toList)=true):(Region.ready md ops l == [i,j]&&l.setIfInBounds i true == li&&l.setIfInBounds j true == lj)=true:=by
 simp only[Bool.and_eq_true]at h ⊢;obtain⟨⟨h1,h2⟩,h3⟩:=h;subst hT;exact⟨⟨by rw[aaz];exact h1,NL h2⟩,NL h3⟩
theorem at2 (hT:kS md ops=T) (h:(NK T.2 l.toList == [i,j,k]&&l.toList.set i true == li.toList&&l.toList.set j true == lj.toList&&l.toList.set k true == lk.toList)=true) :
 (Region.ready md ops l == [i,j,k]&&l.setIfInBounds i true == li&&l.setIfInBounds j true == lj&&l.setIfInBounds k true == lk)=true:=by
 simp only[Bool.and_eq_true]at h ⊢;obtain⟨⟨⟨h1,h2⟩,h3⟩,h4⟩:=h;subst hT;exact⟨⟨⟨by rw[aaz];exact h1,NL h2⟩,NL h3⟩,NL h4⟩
theorem kC (hT:kS md ops=T) (h:(NK T.2 l.toList == [])=true):(Region.ready md ops l == [])=true:=by
 subst hT;rw[aaz];exact h
def RO (B:List Nat) (d:Nat):List Nat→Nat
 |[]=>0
 |n::r=>(2 ^ n ||| (if n<d then B.getD n 0 else 0)) ||| RO B d r
def qw (T:List (List Nat × List Nat)) (B:List Nat):Bool:=(List.range T.length).all fun d=>match T[d]? with
 |some r=>(B.getD d 0 ||| RO B d r.1) == RO B d r.1
 |none=>false
theorem at8 {B:List Nat} {d i:Nat}:∀ {ns:List Nat},(RO B d ns).testBit i=true→∃n ∈ ns,n=i∨(n<d∧(B.getD n 0).testBit i=true)
 |[],h=>by simp[RO]at h
 |n::r,h=>by
  unfold RO at h;rw[Nat.testBit_or,Nat.testBit_or,Bool.or_eq_true,Bool.or_eq_true]at h
  rcases h with (h|h)|h
  ·rw[Nat.testBit_two_pow]at h;exact⟨n,List.mem_cons_self,.inl (by simpa using h)⟩
  ·by_cases hn:n<d
   ·rw[if_pos hn]at h;exact⟨n,List.mem_cons_self,.inr ⟨hn,h⟩⟩
   ·rw[if_neg hn]at h;simp at h
  ·obtain⟨m,hm,h2⟩:=at8 h;exact⟨m,List.mem_cons_of_mem _ hm,h2⟩
theorem atF {T:List (List Nat × List Nat)} {B:List Nat} (hB:qw T B=true):∀(fuel d:Nat),d<fuel→d<T.length→(B.getD d 0).testBit i=true→TK T i fuel d=true
 |0,d,h,_,_=>by omega
 |fuel+1,d,h,hd,hb=>by
  have h1:=List.all_eq_true.1 hB d (List.mem_range.2 hd);cases hr:T[d]? with
  |none=>rw[hr]at h1;simp at h1
  |some r=>
   rw[hr]at h1;simp only[beq_iff_eq]at h1;have h2:(RO B d r.1).testBit i=true:=by rw[←h1,Nat.testBit_or,hb,Bool.true_or]
   obtain⟨n,hn,h3⟩:=at8 h2;unfold TK;rw[hr];simp only;rw[List.any_eq_true];refine⟨n,hn,?_⟩
   rcases h3 with rfl|⟨h4,h5⟩
   ·simp
   ·rw[atF hB fuel n (by omega) (by omega) h5,Bool.or_true]
def atw (T:List (List Nat × List Nat)) (B:List Nat) (l:List Bool) (ds:List Nat) (i:Nat):Bool:=ds.all fun d=>l.getD d true || (decide (d<T.length)&&(B.getD d 0).testBit i)
def alb (T:Bool × List (List Nat × List Nat)) (B:List Nat) (ds:List Nat) (l l':List Bool) (i:Nat):Bool:=T.1&&XN T.2 l i&&NJ T.2 l i&&abZ T.2 l&&atw T.2 B l ds i&&(l.set i true == l')
theorem aH8 {B:List Nat} (hT:kS md ops=T) (hB:qw T.2 B=true) (h:alb T B ds l.toList l'.toList i=true):aaN md ops ds l l' i=true:=by
 refine aH7 hT ?_;simp only[alb,ala,Bool.and_eq_true]at h ⊢;obtain⟨⟨⟨⟨⟨h1,h2⟩,h3⟩,h4⟩,h5⟩,h6⟩:=h;refine⟨⟨⟨⟨⟨h1,h2⟩,h3⟩,h4⟩,?_⟩,h6⟩;unfold atw at h5;unfold adh;rw[List.all_eq_true]at h5 ⊢;intro d hd;have h7:=h5 d hd;rw[Bool.or_eq_true,Bool.and_eq_true,decide_eq_true_eq]at h7
 rcases h7 with h7|⟨h8,h9⟩
 ·rw[h7,Bool.true_or]
 ·rw[atF hB _ d h8 h8 h9,Bool.or_true]
theorem kK {P:Program} {Q:Exit→Act→World→Prop} {S:World→Prop} {n:Nat} {a:Act} {w:World} {B:List Nat} (hT:kS md ops=T) (hB:qw T.2 B=true) (h:Aside0 (kS md ops=T)→Aside0 (qw T.2 B=true)→jR P md ops Q S ds n l a w):jR P md ops Q S ds n l a w:=h ⟨hT⟩ ⟨hB⟩
end
def IV:Code→Nat→Option (Array Oper)
 | .region id ops _,k=>if id == k then some ops else none
 | .seq a b,k=>match IV a k with
  |some o=>some o
  |none=>IV b k
 | .cond _ a b,k=>match IV a k with
  |some o=>some o
  |none=>IV b k
 | .block _ c,k=>IV c k
 | .loop c,k=>IV c k
 | .scope c,k=>IV c k
 | .rangeFunc _ _ a b,k=>match IV a k with
  |some o=>some o
  |none=>IV b k
 |_,_=>none
def opsOf (f:Func) (k:Nat):Array Oper:=((f.body.bind fun c=>IV c k)).getD #[]
end Go.Proofs.YtgpkdbnikcghgaaW.PrintLast
