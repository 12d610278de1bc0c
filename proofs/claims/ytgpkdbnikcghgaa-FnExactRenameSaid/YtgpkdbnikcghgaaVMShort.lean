import Derived.Test.YtgpkdbnikcghgaaVMWords
import Derived.Test.YtgpkdbnikcghgaaVMore
import Derived.Test.YtgpkdbnikcghgaaVLast
import Derived.Test.YtgpkdbnikcghgaaVShare
import Derived.Test.YtgpkdbnikcghgaaVTab
import Derived.Tactics
import Derived.KernelRfl
namespace Go.Proofs.Ytgpkdbnikcghgaa.MWords
open Go.RowKit Go.Proofs.YtgpkdbnikcghgaaW.PrintWords Go.Proofs.YtgpkdbnikcghgaaW.PrintLast Go.Proofs.YtgpkdbnikcghgaaW.PrintMore
theorem J {p:Prop} (h:p):Aside0 p:=⟨h⟩
theorem mK {p q:Prop} (x:q) (h:q→p:=by intro h_;(with_reducible repeat (first|refine JS ?_ _|refine dH ?_|refine tN ?_ _));exact h_):p:=h x
theorem mB {w0 w w1:World} {g:Nat} {o:Obj} (x:Aside0 (w0.heap[g]? = some o)) (hb:Below w.heap.size w w1) (h:w0.heap[g]? = some o→w.heap[g]? = some o:=by intro h_;(with_reducible repeat (first|refine JS ?_ _|refine dH ?_|refine tN ?_ _));exact h_):Aside0 (w1.heap[g]? = some o):=⟨bm (h x.1) hb⟩
theorem bV {w0 w:World} {g g':Nat} {o:Obj} (hg:g'=w.heap.size) (x:w0.heap[g]? = some o) (h:w0.heap[g]? = some o→w.heap[g]? = some o:=by intro h_;(with_reducible repeat (first|refine JS ?_ _|refine dH ?_|refine tN ?_ _));exact h_):Aside0 (g≠g'):=⟨by rw[hg];exact Nat.ne_of_lt (BB (h x))⟩
theorem bU {w0 w:World} {g g':Nat} {o:Obj} (hg:g'=w.heap.size) (x:w0.heap[g]? = some o) (h:w0.heap[g]? = some o→w.heap[g]? = some o:=by intro h_;(with_reducible repeat (first|refine JS ?_ _|refine dH ?_|refine tN ?_ _));exact h_):Aside0 (g'≠g):=⟨by rw[hg];exact Nat.ne_of_gt (BB (h x))⟩
theorem mG {w w1:World} {g:Nat} (hg:g=w1.heap.size) (h:Below w.heap.size w w1):Aside0 (w.heap.size≤g):=⟨by rw[hg];exact a7 h⟩
theorem mR {p q:Prop} (x:q) (h:q→p:=by intro h_;(with_reducible repeat (first|apply Kd.R_alloc|apply Kd.axY|apply Kd.mV));exact h_):p:=h x
theorem mP {p q:Prop} (x:q) (h:q→p:=by intro h_;repeat (first|(with_reducible first|exact h_|apply Kept.alloc|apply Kept.drewN|apply Kept.drew)|exact h_)):p:=h x
theorem mC {p q:Prop} (x:q) (h:q→p:=by intro h_;repeat (first|(with_reducible exact h_)|(with_reducible refine Kd.C_alloc ?_ _)|(with_reducible refine Kd.Sb ?_ _)|(with_reducible refine Kd.C_drew ?_)|exact h_)):p:=h x
theorem mX {w w':World} {b:Nat} {a:Addr} {v:Value} (h:Below b w w') (x:w.cell? a=some v) (hb:b=w.heap.size:=by rfl):w'.cell? a=some v:=by
 subst hb;exact(h.cell (World.block_lt_of_cell? w _ x)).trans x
theorem mZ {w:World} {g:Nat} {t:TypeId} {cs:Array Value} {u:Value} (h:w.heap[g]? = some (.cells cs t (0,0))) (i:Nat) (e:cs[i]? = some u:=by rfl):w.cell? ⟨g,i,none⟩=some u:=(dR h i).trans e
abbrev mb (a b:Nat):Array Bool:=⟨List.replicate a true++List.replicate b false⟩
theorem zA {α:Type} (l:List α) (i:Nat) (a:α):l.toArray.setIfInBounds i a=(l.set i a).toArray:=List.setIfInBounds_toArray ..
theorem zB {α:Type} (xs:List α) (x a:α):(x::xs).set 0 a=a::xs:=List.set_cons_zero ..
theorem zC {α:Type} (xs:List α) (n:Nat) (x a:α):(x::xs).set (n+1) a=x::xs.set n a:=List.set_cons_succ ..
theorem mA {p:Prop} (h:p:=by (try simp only[List.map_toArray,List.map_cons,List.map_nil]);first|done|rfl|(simp only[List.length_drop,List.length_take];rfl)):p:=h
theorem mU {p:Prop} (h:p:=by simp only[Q6,Act.put,List.setIfInBounds_toArray,List.set_cons_zero,List.set_cons_succ]):p:=h
theorem mH {p q:Prop} (x:q) (h:q→p:=by intro h_;repeat (first|(with_reducible first|exact h_|apply Bz|apply AJ|apply hG)|exact h_)):p:=h x
theorem aY {p q a1:Prop} (x:q) (g1:a1) (h:q→a1→p:=by intro h_ vU;repeat (first|(with_reducible first|exact h_|apply Bz|apply AJ|apply hG|refine oP ?_ vU)|exact h_)):p:=h x g1
theorem aT {p q a1 a2:Prop} (x:q) (g1:a1) (g2:a2) (h:q→a1→a2→p:=by intro h_ vU F1;repeat (first|(with_reducible first|exact h_|apply Bz|apply AJ|apply hG|refine oP ?_ vU|refine oP ?_ F1)|exact h_)):p:=h x g1 g2
theorem bg {p q a1 a2 a3:Prop} (x:q) (g1:a1) (g2:a2) (g3:a3) (h:q→a1→a2→a3→p:=by intro h_ vU F1 PJ;repeat (first|(with_reducible first|exact h_|apply Bz|apply AJ|apply hG|refine oP ?_ vU|refine oP ?_ F1|refine oP ?_ PJ)|exact h_)):p:=h x g1 g2 g3
theorem bS {p q a1 a2 a3 a4:Prop} (x:q) (g1:a1) (g2:a2) (g3:a3) (g4:a4) (h:q→a1→a2→a3→a4→p:=by intro h_ vU F1 PJ g4_;repeat (first|(with_reducible first|exact h_|apply Bz|apply AJ|apply hG|refine oP ?_ vU|refine oP ?_ F1|refine oP ?_ PJ|refine oP ?_ g4_)|exact h_)):p:=h x g1 g2 g3 g4
theorem sA {p q a1 a2 a3 a4 a5:Prop} (x:q) (g1:a1) (g2:a2) (g3:a3) (g4:a4) (g5:a5) (h:q→a1→a2→a3→a4→a5→p:=by intro h_ vU F1 PJ g4_ g5_;repeat (first|(with_reducible first|exact h_|apply Bz|apply AJ|apply hG|refine oP ?_ vU|refine oP ?_ F1|refine oP ?_ PJ|refine oP ?_ g4_|refine oP ?_ g5_)|exact h_)):p:=h x g1 g2 g3 g4 g5
theorem aN {p q:Prop} (x:q) (h:q→p:=by intro h_;(with_reducible repeat (first|apply Kd.S_alloc|apply Kd.S_drewN|apply Kd.Eg));exact h_):p:=h x
theorem bp {p q:Prop} (x:q) (h:q→p:=by intro h_;(with_reducible repeat (first|apply Kd.N_alloc|apply Kd.axy|apply Kd.Sy));exact h_):p:=h x
theorem qk {p q:Prop} (x:q) (h:q→p:=by intro h_;(with_reducible repeat (first|apply Kd.V_alloc|apply Kd.aye|apply Kd.V_drew));exact h_):p:=h x
theorem bQ {p q a1:Prop} (g1:a1) (x:q) (h:q→a1→p:=by intro h_ vU;(with_reducible repeat (first|refine JS ?_ _|refine dH ?_|refine tN ?_ _|refine anW ?_ vU _));exact h_):p:=h x g1
theorem mD {p:Prop} [Decidable p] (h:decide p=true:=by first|(with_reducible assumption)|assumption):p:=of_decide_eq_true h
theorem mE {p:Prop} (h:p:=by first|rfl|(simp;done)|(simp[*];done)):p:=h
theorem IU {p q a1:Prop} (x:q) (g1:a1) (h:q→a1→p:=by intro h_ vU;repeat (first|(with_reducible first|exact h_|apply Kept.alloc|apply Kept.drewN|apply Kept.drew|refine Kept.setCell ?_ (.inr vU) _)|exact h_)):p:=h x g1
theorem qu {p q a1 a2:Prop} (x:q) (g1:a1) (g2:a2) (h:q→a1→a2→p:=by intro h_ vU F1;repeat (first|(with_reducible first|exact h_|apply Kept.alloc|apply Kept.drewN|apply Kept.drew|refine Kept.setCell ?_ (.inr vU) _|refine Kept.setCell ?_ (.inr F1) _)|exact h_)):p:=h x g1 g2
theorem tP {p q a1 a2 a3:Prop} (x:q) (g1:a1) (g2:a2) (g3:a3) (h:q→a1→a2→a3→p:=by intro h_ vU F1 PJ;repeat (first|(with_reducible first|exact h_|apply Kept.alloc|apply Kept.drewN|apply Kept.drew|refine Kept.setCell ?_ (.inr vU) _|refine Kept.setCell ?_ (.inr F1) _|refine Kept.setCell ?_ (.inr PJ) _)|exact h_)):p:=h x g1 g2 g3
theorem tt {w:World} {g:Nat} {t:TypeId} {u0 u1:Value} (h:w.heap[g]? = some (.cells #[u0,u1] t (0,0))):w.cell? ⟨g,0,none⟩=some u0∧w.cell? ⟨g,1,none⟩=some u1∧w.frozen? ⟨g,0,none⟩=false∧w.frozen? ⟨g,1,none⟩=false:=⟨mZ h 0,mZ h 1,lK h 0,lK h 1⟩
theorem oS {w:World} {g:Nat} {t:TypeId} {u0 u1 u2:Value} (h:w.heap[g]? = some (.cells #[u0,u1,u2] t (0,0))):w.cell? ⟨g,0,none⟩=some u0∧w.cell? ⟨g,1,none⟩=some u1∧w.cell? ⟨g,2,none⟩=some u2∧w.frozen? ⟨g,0,none⟩=false∧w.frozen? ⟨g,1,none⟩=false∧w.frozen? ⟨g,2,none⟩=false:=⟨mZ h 0,mZ h 1,mZ h 2,lK h 0,lK h 1,lK h 2⟩
theorem bb {w:World} {g:Nat} {t:TypeId} {u0 u1 u2 u3:Value} (h:w.heap[g]? = some (.cells #[u0,u1,u2,u3] t (0,0))):w.cell? ⟨g,0,none⟩=some u0∧w.cell? ⟨g,1,none⟩=some u1∧w.cell? ⟨g,2,none⟩=some u2∧w.cell? ⟨g,3,none⟩=some u3∧w.frozen? ⟨g,0,none⟩=false∧w.frozen? ⟨g,1,none⟩=false∧w.frozen? ⟨g,2,none⟩=false∧w.frozen? ⟨g,3,none⟩=false:=⟨mZ h 0,mZ h 1,mZ h 2,mZ h 3,lK h 0,lK h 1,lK h 2,lK h 3⟩
theorem aty {α:Type} {d:Kd α} {e:Nat} {w:World} {base g:Nat} {ok:Nat→Prop} {v:Value} {xs:List α} {u0 u1:Value} (h:Kd.R d e w base ok v xs) (hok:∀k,ok k→k≠g:=by exact fun _ hk=>hk.2):Kd.R d e ((w.setCell ⟨g,0,none⟩ u0).setCell ⟨g,1,none⟩ u1) base ok v xs:=(Kd.jl (p:=⟨g,1,none⟩) (Kd.jl (p:=⟨g,0,none⟩) h hok u0) hok u1)
theorem Cn {α:Type} {d:Kd α} {e:Nat} {w:World} {base g:Nat} {ok:Nat→Prop} {v:Value} {xs:List α} {u0 u1 u2:Value} (h:Kd.R d e w base ok v xs) (hok:∀k,ok k→k≠g:=by exact fun _ hk=>hk.2):Kd.R d e (((w.setCell ⟨g,0,none⟩ u0).setCell ⟨g,1,none⟩ u1).setCell ⟨g,2,none⟩ u2) base ok v xs:=(Kd.jl (p:=⟨g,2,none⟩) (Kd.jl (p:=⟨g,1,none⟩) (Kd.jl (p:=⟨g,0,none⟩) h hok u0) hok u1) hok u2)
theorem aI {α:Type} {d:Kd α} {e:Nat} {w:World} {base g:Nat} {ok:Nat→Prop} {v:Value} {xs:List α} {u0 u1 u2 u3:Value} (h:Kd.R d e w base ok v xs) (hok:∀k,ok k→k≠g:=by exact fun _ hk=>hk.2):Kd.R d e ((((w.setCell ⟨g,0,none⟩ u0).setCell ⟨g,1,none⟩ u1).setCell ⟨g,2,none⟩ u2).setCell ⟨g,3,none⟩ u3) base ok v xs:=(Kd.jl (p:=⟨g,3,none⟩) (Kd.jl (p:=⟨g,2,none⟩) (Kd.jl (p:=⟨g,1,none⟩) (Kd.jl (p:=⟨g,0,none⟩) h hok u0) hok u1) hok u2) hok u3)
theorem atz {α:Type} {d:Kd α} {e:Nat} {w:World} {base g:Nat} {ok:Nat→Prop} {v:Value} {xs:List α} {u0 u1 u2:Value} (h:Kd.S d e w base ok v xs) (hok:∀k,ok k→k≠g:=by exact fun _ hk=>hk.2):Kd.S d e (((w.setCell ⟨g,0,none⟩ u0).setCell ⟨g,1,none⟩ u1).setCell ⟨g,2,none⟩ u2) base ok v xs:=(Kd.z7 (p:=⟨g,2,none⟩) (Kd.z7 (p:=⟨g,1,none⟩) (Kd.z7 (p:=⟨g,0,none⟩) h hok u0) hok u1) hok u2)
theorem dE {α:Type} {d:Kd α} {e:Nat} {w:World} {base g:Nat} {ok:Nat→Prop} {v:Value} {xs:List α} {u0 u1 u2 u3:Value} (h:Kd.S d e w base ok v xs) (hok:∀k,ok k→k≠g:=by exact fun _ hk=>hk.2):Kd.S d e ((((w.setCell ⟨g,0,none⟩ u0).setCell ⟨g,1,none⟩ u1).setCell ⟨g,2,none⟩ u2).setCell ⟨g,3,none⟩ u3) base ok v xs:=(Kd.z7 (p:=⟨g,3,none⟩) (Kd.z7 (p:=⟨g,2,none⟩) (Kd.z7 (p:=⟨g,1,none⟩) (Kd.z7 (p:=⟨g,0,none⟩) h hok u0) hok u1) hok u2) hok u3)
theorem gJ {α:Type} {d:Kd α} {e:Nat} {w:World} {base g:Nat} {ok:Nat→Prop} {v:Value} {xs:List α} {u0 u1 u2 u3:Value} (h:Kd.N d e w base ok v xs) (hok:∀k,ok k→k≠g:=by exact fun _ hk=>hk.2):Kd.N d e ((((w.setCell ⟨g,0,none⟩ u0).setCell ⟨g,1,none⟩ u1).setCell ⟨g,2,none⟩ u2).setCell ⟨g,3,none⟩ u3) base ok v xs:=(Kd.Fw (p:=⟨g,3,none⟩) (Kd.Fw (p:=⟨g,2,none⟩) (Kd.Fw (p:=⟨g,1,none⟩) (Kd.Fw (p:=⟨g,0,none⟩) h hok u0) hok u1) hok u2) hok u3)
section
variable {P:Program} {ops:Array Oper} {rest:List Oper} {o:Oper} {a:Act} {Q:Exit→Act→World→Prop}
theorem bO {W:World} (N:Tmp) (cs:Array Value) (t:TypeId)
 (h:∀g,g=W.heap.size→∀w1,w1.heap[g]? = some (.cells cs t (0,0))→Below W.heap.size W w1→wpList P ops Q rest (a.put o.dst (.pointer (some ⟨g,0,none⟩))) w1)
 (hgd:o.guard=none:=by rfl) (hd:o.dst=some N:=by rfl)
 (hrun:(execOp a.eval o).run P W = .ok (.value (.pointer (some ⟨W.heap.size,0,none⟩))) (W.alloc (.cells cs t (0,0))):=by first|(go_simp;done)|(go_simp;rfl)):wpList P ops Q (o::rest) a W:=
 ayE hgd hd hrun h
end
abbrev mr (l:List Nat):Array Bool:=⟨(l.foldl (fun p n=>(p.1++List.replicate n p.2,!p.2)) (([]:List Bool),true)).1⟩
theorem cS {p:Prop} (h:p:=by first|rfl|(simp[errW_none,errW_some]<;>rfl)|(simp[*,errW_none,errW_some]<;>rfl)):p:=h
theorem mc2 {w:World} {g:Nat} {t:TypeId} {cs:Array Value} {u0 u1:Value} (h:w.heap[g]? = some (.cells cs t (0,0))) (e0:cs[0]? = some u0:=by rfl) (e1:cs[1]? = some u1:=by rfl):w.cell? ⟨g,0,none⟩=some u0∧w.cell? ⟨g,1,none⟩=some u1:=⟨mZ h 0 e0,mZ h 1 e1⟩
theorem Co {w:World} {g:Nat} {t:TypeId} {cs:Array Value} {u0 u1:Value} {p:Prop} (h:w.heap[g]? = some (.cells cs t (0,0))) (r:p) (e0:cs[0]? = some u0:=by rfl) (e1:cs[1]? = some u1:=by rfl):w.cell? ⟨g,0,none⟩=some u0∧w.cell? ⟨g,1,none⟩=some u1∧p:=⟨mZ h 0 e0,mZ h 1 e1,r⟩
theorem mc3 {w:World} {g:Nat} {t:TypeId} {cs:Array Value} {u0 u1 u2:Value} (h:w.heap[g]? = some (.cells cs t (0,0))) (e0:cs[0]? = some u0:=by rfl) (e1:cs[1]? = some u1:=by rfl) (e2:cs[2]? = some u2:=by rfl):w.cell? ⟨g,0,none⟩=some u0∧w.cell? ⟨g,1,none⟩=some u1∧w.cell? ⟨g,2,none⟩=some u2:=⟨mZ h 0 e0,mZ h 1 e1,mZ h 2 e2⟩
theorem jZ {w:World} {g:Nat} {t:TypeId} {cs:Array Value} {u0 u1 u2:Value} {p:Prop} (h:w.heap[g]? = some (.cells cs t (0,0))) (r:p) (e0:cs[0]? = some u0:=by rfl) (e1:cs[1]? = some u1:=by rfl) (e2:cs[2]? = some u2:=by rfl):w.cell? ⟨g,0,none⟩=some u0∧w.cell? ⟨g,1,none⟩=some u1∧w.cell? ⟨g,2,none⟩=some u2∧p:=⟨mZ h 0 e0,mZ h 1 e1,mZ h 2 e2,r⟩
theorem eT {w:World} {g:Nat} {t:TypeId} {cs:Array Value} {u0 u1 u2 u3:Value} (h:w.heap[g]? = some (.cells cs t (0,0))) (e0:cs[0]? = some u0:=by rfl) (e1:cs[1]? = some u1:=by rfl) (e2:cs[2]? = some u2:=by rfl) (e3:cs[3]? = some u3:=by rfl):w.cell? ⟨g,0,none⟩=some u0∧w.cell? ⟨g,1,none⟩=some u1∧w.cell? ⟨g,2,none⟩=some u2∧w.cell? ⟨g,3,none⟩=some u3:=⟨mZ h 0 e0,mZ h 1 e1,mZ h 2 e2,mZ h 3 e3⟩
theorem jo {w:World} {g:Nat} {t:TypeId} {cs:Array Value} {u0 u1 u2 u3:Value} {p:Prop} (h:w.heap[g]? = some (.cells cs t (0,0))) (r:p) (e0:cs[0]? = some u0:=by rfl) (e1:cs[1]? = some u1:=by rfl) (e2:cs[2]? = some u2:=by rfl) (e3:cs[3]? = some u3:=by rfl):w.cell? ⟨g,0,none⟩=some u0∧w.cell? ⟨g,1,none⟩=some u1∧w.cell? ⟨g,2,none⟩=some u2∧w.cell? ⟨g,3,none⟩=some u3∧p:=⟨mZ h 0 e0,mZ h 1 e1,mZ h 2 e2,mZ h 3 e3,r⟩
section
variable {P:Program} {md:Region.Mode} {ops:Array Oper} {Q:Exit→Act→World→Prop} {S:World→Prop} {ds:List Nat} {T:Bool × List (List Nat × List Nat)}
theorem an (i:Nat) (n:Tmp) (hT:kS md ops=T) {oi:Oper} {v:Value} {fuel:Nat} {l:Array Bool} {a a':Act} {w:World} (l':Array Bool) (h:jR P md ops Q S ds fuel l' a' w)
 (hi:ops[i]? = some oi:=by exact rfl) (hN:oi.dst=some n:=by exact rfl) (hk:abN T l.toList l'.toList i=true:=by kernel_rfl) (hQ:∀c a w,Q (.panic c) (a.put oi.dst v) w→Q (.panic c) a w:=by exact fun _ _ _ h=>h)
 (hw:Region.wanted oi (yielded ops a.tmps)=true:=by rfl) (hv:∀w,(execOp a.eval oi).run P w = .ok (.value v) w:=by intro w';go_simp;with_reducible rfl) (ha:a.put (some n) v=a':=by simp only[Act.put,zA,zB,zC,kE,lE];rfl) :
 jR P md ops Q S ds (fuel+1) l a w:=TI l' hi hN (anT hT hk) hQ (Or.inl ⟨hw,hv⟩) ha h
theorem aU (i:Nat) (n:Tmp) (hT:kS md ops=T) {oi:Oper} {fuel:Nat} {l:Array Bool} {a a':Act} {w:World} (l':Array Bool) (h:jR P md ops Q S ds fuel l' a' w)
 (hi:ops[i]? = some oi:=by exact rfl) (hN:oi.dst=some n:=by exact rfl) (hk:abN T l.toList l'.toList i=true:=by kernel_rfl) (hQ:∀c a w,Q (.panic c) (a.put oi.dst undef) w→Q (.panic c) a w:=by exact fun _ _ _ h=>h)
 (hw:Region.wanted oi (yielded ops a.tmps)=false:=by rfl) (ha:a.put (some n) undef=a':=by simp only[Act.put,zA,zB,zC,kE,lE];rfl) :
 jR P md ops Q S ds (fuel+1) l a w:=TI l' hi hN (anT hT hk) hQ (Or.inr ⟨hw,rfl⟩) ha h
theorem bC (i:Nat) (n:Tmp) {B:List Nat} (hT:kS md ops=T) (hB:qw T.2 B=true) {oi:Oper} {v:Value} {fuel:Nat} {l:Array Bool} {a a':Act} {w:World} (l':Array Bool) (hS:S w) (h:jR P md ops Q S ds fuel l' a' w)
 (hi:ops[i]? = some oi:=by exact rfl) (hN:oi.dst=some n:=by exact rfl) (hk:alb T B ds l.toList l'.toList i=true:=by kernel_rfl) (hQ:∀c a w,Q (.panic c) (a.put oi.dst v) w→Q (.panic c) a w:=by exact fun _ _ _ h=>h)
 (hw:Region.wanted oi (yielded ops a.tmps)=true:=by rfl) (hv:∀w,S w→(execOp a.eval oi).run P w = .ok (.value v) w:=by intro w' hs_;repeat (obtain⟨s_,hs_⟩:=hs_);go_simp;with_reducible rfl) (ha:a.put (some n) v=a':=by simp only[Act.put,zA,zB,zC,kE,lE];rfl) :
 jR P md ops Q S ds (fuel+1) l a w:=Lm l' hi hN (aH8 hT hB hk) hQ (Or.inl ⟨hw,hv⟩) hS ha h
theorem cO (N:Tmp) {fuel:Nat} {l:Array Bool} {a a':Act} {v:Value} {w:World} (h:jR P md ops Q S ds fuel l a' w) (e:a.put (some N) v=a':=by simp only[Act.put,zA,zB,zC,kE,lE];rfl):jR P md ops Q S ds fuel l (a.put (some N) v) w:=TG e h
theorem Cp {fuel:Nat} {l:Array Bool} {a a':Act} {w:World} (h:jR P md ops Q S ds fuel l a' w) (e:a=a':=by simp only[Q6,Act.put,zA,zB,zC];rfl):jR P md ops Q S ds fuel l a w:=TG e h
theorem tu {fuel:Nat} {l:Array Bool} {a a':Act} {w:World} (h:jR P md ops Q S ds fuel l a' w) (e:a=a':=by first|(simp only[Q6,Act.put,zA,zB,zC];done)|(simp only[Q6,Act.put,zA,zB,zC];rfl)):jR P md ops Q S ds fuel l a w:=TG e h
theorem dA (i:Nat) (N:Option Tmp) (hT:kS md ops=T) {oi:Oper} {fuel:Nat} {l:Array Bool} {a:Act} {w:World} (l':Array Bool)
 (h:∀K:Act→World→Prop,Shut (∀a' w',S w'→(S w'→jR P md ops Q S ds fuel l' a' w')→K a' w')→if Region.wanted oi (yielded ops a.tmps)=true then Oper.wp P oi a w K Q else K (a.put N undef) w)
 (hi:ops[i]? = some oi:=by exact rfl) (hN:oi.dst=N:=by exact rfl) (hk:(NK T.2 l.toList == [i]&&l.toList.set i true == l'.toList)=true:=by kernel_rfl) (hd:i ∉ ds:=by decide):jR P md ops Q S ds (fuel+1) l a w:=KU l' hi hN (adi hT hk) hd h
end
section
variable {P:Program} {ops:Array Oper} {Q:Exit→Act→World→Prop}
theorem bH {rest:List Oper} {oi:Oper} {a:Act} {w:World} (n:Tmp) {f:FuncId} {fn:Func} {as:Array Operand} {ts:Array TypeId} (hf:P.funcs[f]? = some fn) (args:Array Value)
 (h:Calls P f args w fun e w'=>∃v,e = .returned v∧wpList P ops Q rest (a.put (some n) v) w')
 (hd:oi.dst=some n:=by rfl) (hg:oi.guard=none:=by rfl) (hname:(fn.name == "runtime.NumGoroutine")=false:=by kernel_rfl) (hb:fn.body.isSome=true:=by rfl)
 (hop:oi.op = .call { callee:=.value (.func f),args:=as,argTypes:=ts }:=by rfl) (hargs:as.map a.eval=args:=by (try simp only[List.map_toArray,List.map_cons,List.map_nil]);first|done|rfl|(simp only[List.length_drop,List.length_take];rfl)):wpList P ops Q (oi::rest) a w:=DE (some n) hd hg hf hname hb args hop hargs h
end
end Go.Proofs.Ytgpkdbnikcghgaa.MWords
