/- Names that are drawn, and a drawn disk that is not quite right, in plain lists. -/
import Derived.Test.YtgpkdbnikcghgaaMPR
set_option linter.unusedVariables false
set_option linter.unusedSimpArgs false
namespace Go.Proofs.Ytgpkdbnikcghgaa.MPD
open Go.RowKit Go.Proofs.Ytgpkdbnikcghgaa.MD Go.Proofs.YtgpkdbnikcghgaaW.PrintWords Go.Proofs.YtgpkdbnikcghgaaW.PrintLast Go.Proofs.YtgpkdbnikcghgaaW.PrintMore
def Py:List ByteArray:=[(⟨#[]⟩:ByteArray),(⟨#[65]⟩:ByteArray),(⟨#[116,104,105,114,116,101,101,110,45,108,111,110,103]⟩:ByteArray),(⟨#[116,119,101,108,118,101,45,108,111,110,103,49]⟩:ByteArray),(⟨#[97,32,98]⟩:ByteArray)]
theorem ahg (b:List Int) (i x:Int) (hb:b.length≤1048576) (hi:At b i):∃v j y,BX.f b i x=some (v,j,y)∧v.size≤13∧At b j:=by
 obtain⟨o,j,y,e,_,_,_,hj⟩:=Ma b i x 12 hb hi;unfold BX.f BU.f;simp only[e,Option.bind_some];by_cases h:(o == 0)=true
 ·obtain⟨v,j2,y2,e2,hm,oc⟩:=acg b j y Py hb hj (by decide);refine⟨v,j2,y2,?_,?_,oc⟩
  ·rw[if_pos h];show (rB.f b j y Py).bind _=_;rw[e2];rfl
  ·simp only[Py,List.mem_cons,List.not_mem_nil,or_false]at hm
   rcases hm with rfl|rfl|rfl|rfl|rfl<;>decide
 ·obtain⟨v,j2,y2,e2,hm,oc⟩:=Yg b j y hb hj;refine⟨v,j2,y2,?_,?_,oc⟩
  ·rw[if_neg h,e2];rfl
  ·simp only[y4,List.mem_cons,List.not_mem_nil,or_false]at hm
   rcases hm with rfl|rfl|rfl|rfl|rfl|rfl<;>decide
def Sm (d:nw):Prop:=Small d.f0 d.f1 d.f2∧∀x ∈ d.f0,x.f1.length≤1048576
variable {d:nw}
theorem Sm.next (h:Sm d) (x:Int):Sm ⟨d.f0,d.f1,d.f2,x⟩:=h
theorem Sm.none (h:Sm d):Sm ⟨d.f0,d.f1,[],d.f3⟩:=⟨⟨h.1.h0,h.1.hd,h.1.h1,by simp,h.1.z1,by simp⟩,h.2⟩
theorem Sm.name (h:sO d) {nm:ByteArray} (hn:nm.size≤13) (x:Int):Sm ⟨d.f0,d.f1++[⟨nm,x⟩],d.f2,d.f3⟩:=by
 have hs:=h.small;refine⟨⟨hs.1.h0,hs.1.hd,?_,hs.1.h2,fun e he=>?_,hs.1.z2⟩,hs.2⟩
 ·have:=h.e1.1;rw[List.length_append];simp only[List.length_singleton];omega
 ·rcases List.mem_append.1 he with he|he
  ·exact hs.1.z1 e he
  ·rw[List.mem_singleton.1 he];exact Nat.le_trans hn (by decide)
theorem Sm.sure (h:Sm d) (x:Int):Sm ⟨d.f0.set 0 ⟨(aa d.f0 0).f0,(aa d.f0 0).f1,x⟩,d.f1,d.f2,d.f3⟩:=by
 have hm:∀n,0≤n→(∀x ∈ d.f0,x.f1.length≤n)→∀y ∈ d.f0.set 0 ⟨(aa d.f0 0).f0,(aa d.f0 0).f1,x⟩,y.f1.length≤n:=fun n hn ha y hy=>by
  rcases List.mem_or_eq_of_mem_set hy with hy|rfl
  ·exact ha y hy
  ·rcases Nat.eq_zero_or_pos d.f0.length with h0|h0
   ·rw[List.eq_nil_of_length_eq_zero h0];exact hn
   ·have e:aa d.f0 0=d.f0[0]:=xW h0;show (aa d.f0 0).f1.length≤n;rw[e];exact ha _ (List.getElem_mem h0)
 exact⟨⟨by rw[List.length_set];exact h.1.h0,hm _ (by decide) h.1.hd,h.1.h1,h.1.h2,h.1.z1,h.1.z2⟩,hm _ (by decide) h.2⟩
end Go.Proofs.Ytgpkdbnikcghgaa.MPD
