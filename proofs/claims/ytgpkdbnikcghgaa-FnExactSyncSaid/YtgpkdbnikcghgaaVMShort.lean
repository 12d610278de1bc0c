import Derived.Test.YtgpkdbnikcghgaaVMWords
import Derived.Test.YtgpkdbnikcghgaaVMore
import Derived.Test.YtgpkdbnikcghgaaVLast
import Derived.Test.YtgpkdbnikcghgaaVShare
import Derived.Test.YtgpkdbnikcghgaaVTab
import Derived.Tactics
import Derived.KernelRfl
namespace Go.Proofs.Ytgpkdbnikcghgaa.MWords
open Go.RowKit Go.Proofs.YtgpkdbnikcghgaaW.PrintWords Go.Proofs.YtgpkdbnikcghgaaW.PrintLast Go.Proofs.YtgpkdbnikcghgaaW.PrintMore
theorem mS {p:Prop} (h:p):Aside0 p:=⟨h⟩
theorem mK {p q:Prop} (x:q) (h:q→p:=by intro h_;(with_reducible repeat (first|refine blk_drewN ?_ _|refine blk_drew ?_|refine blk_alloc ?_ _));exact h_):p:=h x
theorem mB {w0 w w1:World} {g:Nat} {o:Obj} (x:Aside0 (w0.heap[g]? = some o)) (hb:Below w.heap.size w w1) (h:w0.heap[g]? = some o→w.heap[g]? = some o:=by intro h_;(with_reducible repeat (first|refine blk_drewN ?_ _|refine blk_drew ?_|refine blk_alloc ?_ _));exact h_):Aside0 (w1.heap[g]? = some o):=⟨blk_below (h x.out) hb⟩
theorem mNl {w0 w:World} {g g':Nat} {o:Obj} (hg:g'=w.heap.size) (x:w0.heap[g]? = some o) (h:w0.heap[g]? = some o→w.heap[g]? = some o:=by intro h_;(with_reducible repeat (first|refine blk_drewN ?_ _|refine blk_drew ?_|refine blk_alloc ?_ _));exact h_):Aside0 (g≠g'):=⟨by rw[hg];exact Nat.ne_of_lt (blk_lt (h x))⟩
theorem mNg {w0 w:World} {g g':Nat} {o:Obj} (hg:g'=w.heap.size) (x:w0.heap[g]? = some o) (h:w0.heap[g]? = some o→w.heap[g]? = some o:=by intro h_;(with_reducible repeat (first|refine blk_drewN ?_ _|refine blk_drew ?_|refine blk_alloc ?_ _));exact h_):Aside0 (g'≠g):=⟨by rw[hg];exact Nat.ne_of_gt (blk_lt (h x))⟩
theorem mG {w w1:World} {g:Nat} (hg:g=w1.heap.size) (h:Below w.heap.size w w1):Aside0 (w.heap.size≤g):=⟨by rw[hg];exact below_size h⟩
theorem mR {p q:Prop} (x:q) (h:q→p:=by intro h_;(with_reducible repeat (first|apply Kd.R_alloc|apply Kd.R_drewN|apply Kd.R_drew));exact h_):p:=h x
theorem mP {p q:Prop} (x:q) (h:q→p:=by intro h_;repeat (first|(with_reducible first|exact h_|apply Kept.alloc|apply Kept.drewN|apply Kept.drew)|exact h_)):p:=h x
theorem mC {p q:Prop} (x:q) (h:q→p:=by intro h_;repeat (first|(with_reducible exact h_)|(with_reducible refine Kd.C_alloc ?_ _)|(with_reducible refine Kd.C_drewN ?_ _)|(with_reducible refine Kd.C_drew ?_)|exact h_)):p:=h x
theorem mX {w w':World} {b:Nat} {a:Addr} {v:Value} (h:Below b w w') (x:w.cell? a=some v) (hb:b=w.heap.size:=by rfl):w'.cell? a=some v:=by
 subst hb;exact(h.cell (World.block_lt_of_cell? w _ x)).trans x
theorem mZ {w:World} {g:Nat} {t:TypeId} {cs:Array Value} {u:Value} (h:w.heap[g]? = some (.cells cs t (0,0))) (i:Nat) (e:cs[i]? = some u:=by rfl):w.cell? ⟨g,i,none⟩=some u:=(blk_cell h i).trans e
abbrev mb (a b:Nat):Array Bool:=⟨List.replicate a true++List.replicate b false⟩
theorem zA {α:Type} (l:List α) (i:Nat) (a:α):l.toArray.setIfInBounds i a=(l.set i a).toArray:=List.setIfInBounds_toArray ..
theorem zB {α:Type} (xs:List α) (x a:α):(x::xs).set 0 a=a::xs:=List.set_cons_zero ..
theorem zC {α:Type} (xs:List α) (n:Nat) (x a:α):(x::xs).set (n+1) a=x::xs.set n a:=List.set_cons_succ ..
theorem mA {p:Prop} (h:p:=by (try simp only[List.map_toArray,List.map_cons,List.map_nil]);first|done|rfl|(simp only[List.length_drop,List.length_take];rfl)):p:=h
theorem mU {p:Prop} (h:p:=by simp only[putAll,Act.put,List.setIfInBounds_toArray,List.set_cons_zero,List.set_cons_succ]):p:=h
theorem mH {p q:Prop} (x:q) (h:q→p:=by intro h_;repeat (first|(with_reducible first|exact h_|apply below_alloc|apply pw_below_drewN|apply below_drew1)|exact h_)):p:=h x
theorem mH1 {p q a1:Prop} (x:q) (g1:a1) (h:q→a1→p:=by intro h_ g1_;repeat (first|(with_reducible first|exact h_|apply below_alloc|apply pw_below_drewN|apply below_drew1|refine below_set ?_ g1_)|exact h_)):p:=h x g1
theorem mH2 {p q a1 a2:Prop} (x:q) (g1:a1) (g2:a2) (h:q→a1→a2→p:=by intro h_ g1_ g2_;repeat (first|(with_reducible first|exact h_|apply below_alloc|apply pw_below_drewN|apply below_drew1|refine below_set ?_ g1_|refine below_set ?_ g2_)|exact h_)):p:=h x g1 g2
theorem mH3 {p q a1 a2 a3:Prop} (x:q) (g1:a1) (g2:a2) (g3:a3) (h:q→a1→a2→a3→p:=by intro h_ g1_ g2_ g3_;repeat (first|(with_reducible first|exact h_|apply below_alloc|apply pw_below_drewN|apply below_drew1|refine below_set ?_ g1_|refine below_set ?_ g2_|refine below_set ?_ g3_)|exact h_)):p:=h x g1 g2 g3
theorem mH4 {p q a1 a2 a3 a4:Prop} (x:q) (g1:a1) (g2:a2) (g3:a3) (g4:a4) (h:q→a1→a2→a3→a4→p:=by intro h_ g1_ g2_ g3_ g4_;repeat (first|(with_reducible first|exact h_|apply below_alloc|apply pw_below_drewN|apply below_drew1|refine below_set ?_ g1_|refine below_set ?_ g2_|refine below_set ?_ g3_|refine below_set ?_ g4_)|exact h_)):p:=h x g1 g2 g3 g4
theorem mH5 {p q a1 a2 a3 a4 a5:Prop} (x:q) (g1:a1) (g2:a2) (g3:a3) (g4:a4) (g5:a5) (h:q→a1→a2→a3→a4→a5→p:=by intro h_ g1_ g2_ g3_ g4_ g5_;repeat (first|(with_reducible first|exact h_|apply below_alloc|apply pw_below_drewN|apply below_drew1|refine below_set ?_ g1_|refine below_set ?_ g2_|refine below_set ?_ g3_|refine below_set ?_ g4_|refine below_set ?_ g5_)|exact h_)):p:=h x g1 g2 g3 g4 g5
theorem mSd {p q:Prop} (x:q) (h:q→p:=by intro h_;(with_reducible repeat (first|apply Kd.S_alloc|apply Kd.S_drewN|apply Kd.S_drew));exact h_):p:=h x
theorem mNd {p q:Prop} (x:q) (h:q→p:=by intro h_;(with_reducible repeat (first|apply Kd.N_alloc|apply Kd.N_drewN|apply Kd.N_drew));exact h_):p:=h x
theorem mVd {p q:Prop} (x:q) (h:q→p:=by intro h_;(with_reducible repeat (first|apply Kd.V_alloc|apply Kd.V_drewN|apply Kd.V_drew));exact h_):p:=h x
theorem mKf {p q a1:Prop} (g1:a1) (x:q) (h:q→a1→p:=by intro h_ g1_;(with_reducible repeat (first|refine blk_drewN ?_ _|refine blk_drew ?_|refine blk_alloc ?_ _|refine blk_far ?_ g1_ _));exact h_):p:=h x g1
theorem mD {p:Prop} [Decidable p] (h:decide p=true:=by first|(with_reducible assumption)|assumption):p:=of_decide_eq_true h
theorem mE {p:Prop} (h:p:=by first|rfl|(simp;done)|(simp[*];done)):p:=h
theorem mP1 {p q a1:Prop} (x:q) (g1:a1) (h:q→a1→p:=by intro h_ g1_;repeat (first|(with_reducible first|exact h_|apply Kept.alloc|apply Kept.drewN|apply Kept.drew|refine Kept.setCell ?_ (.inr g1_) _)|exact h_)):p:=h x g1
theorem mP2 {p q a1 a2:Prop} (x:q) (g1:a1) (g2:a2) (h:q→a1→a2→p:=by intro h_ g1_ g2_;repeat (first|(with_reducible first|exact h_|apply Kept.alloc|apply Kept.drewN|apply Kept.drew|refine Kept.setCell ?_ (.inr g1_) _|refine Kept.setCell ?_ (.inr g2_) _)|exact h_)):p:=h x g1 g2
theorem mP3 {p q a1 a2 a3:Prop} (x:q) (g1:a1) (g2:a2) (g3:a3) (h:q→a1→a2→a3→p:=by intro h_ g1_ g2_ g3_;repeat (first|(with_reducible first|exact h_|apply Kept.alloc|apply Kept.drewN|apply Kept.drew|refine Kept.setCell ?_ (.inr g1_) _|refine Kept.setCell ?_ (.inr g2_) _|refine Kept.setCell ?_ (.inr g3_) _)|exact h_)):p:=h x g1 g2 g3
theorem mZ2 {w:World} {g:Nat} {t:TypeId} {u0 u1:Value} (h:w.heap[g]? = some (.cells #[u0,u1] t (0,0))):w.cell? ⟨g,0,none⟩=some u0∧w.cell? ⟨g,1,none⟩=some u1∧w.frozen? ⟨g,0,none⟩=false∧w.frozen? ⟨g,1,none⟩=false:=⟨mZ h 0,mZ h 1,blk_frozen h 0,blk_frozen h 1⟩
theorem mZ3 {w:World} {g:Nat} {t:TypeId} {u0 u1 u2:Value} (h:w.heap[g]? = some (.cells #[u0,u1,u2] t (0,0))):w.cell? ⟨g,0,none⟩=some u0∧w.cell? ⟨g,1,none⟩=some u1∧w.cell? ⟨g,2,none⟩=some u2∧w.frozen? ⟨g,0,none⟩=false∧w.frozen? ⟨g,1,none⟩=false∧w.frozen? ⟨g,2,none⟩=false:=⟨mZ h 0,mZ h 1,mZ h 2,blk_frozen h 0,blk_frozen h 1,blk_frozen h 2⟩
theorem mZ4 {w:World} {g:Nat} {t:TypeId} {u0 u1 u2 u3:Value} (h:w.heap[g]? = some (.cells #[u0,u1,u2,u3] t (0,0))):w.cell? ⟨g,0,none⟩=some u0∧w.cell? ⟨g,1,none⟩=some u1∧w.cell? ⟨g,2,none⟩=some u2∧w.cell? ⟨g,3,none⟩=some u3∧w.frozen? ⟨g,0,none⟩=false∧w.frozen? ⟨g,1,none⟩=false∧w.frozen? ⟨g,2,none⟩=false∧w.frozen? ⟨g,3,none⟩=false:=⟨mZ h 0,mZ h 1,mZ h 2,mZ h 3,blk_frozen h 0,blk_frozen h 1,blk_frozen h 2,blk_frozen h 3⟩
theorem mRf2 {α:Type} {d:Kd α} {e:Nat} {w:World} {base g:Nat} {ok:Nat→Prop} {v:Value} {xs:List α} {u0 u1:Value} (h:Kd.R d e w base ok v xs) (hok:∀k,ok k→k≠g:=by exact fun _ hk=>hk.2):Kd.R d e ((w.setCell ⟨g,0,none⟩ u0).setCell ⟨g,1,none⟩ u1) base ok v xs:=(Kd.R_far (p:=⟨g,1,none⟩) (Kd.R_far (p:=⟨g,0,none⟩) h hok u0) hok u1)
theorem mRf3 {α:Type} {d:Kd α} {e:Nat} {w:World} {base g:Nat} {ok:Nat→Prop} {v:Value} {xs:List α} {u0 u1 u2:Value} (h:Kd.R d e w base ok v xs) (hok:∀k,ok k→k≠g:=by exact fun _ hk=>hk.2):Kd.R d e (((w.setCell ⟨g,0,none⟩ u0).setCell ⟨g,1,none⟩ u1).setCell ⟨g,2,none⟩ u2) base ok v xs:=(Kd.R_far (p:=⟨g,2,none⟩) (Kd.R_far (p:=⟨g,1,none⟩) (Kd.R_far (p:=⟨g,0,none⟩) h hok u0) hok u1) hok u2)
theorem mRf4 {α:Type} {d:Kd α} {e:Nat} {w:World} {base g:Nat} {ok:Nat→Prop} {v:Value} {xs:List α} {u0 u1 u2 u3:Value} (h:Kd.R d e w base ok v xs) (hok:∀k,ok k→k≠g:=by exact fun _ hk=>hk.2):Kd.R d e ((((w.setCell ⟨g,0,none⟩ u0).setCell ⟨g,1,none⟩ u1).setCell ⟨g,2,none⟩ u2).setCell ⟨g,3,none⟩ u3) base ok v xs:=(Kd.R_far (p:=⟨g,3,none⟩) (Kd.R_far (p:=⟨g,2,none⟩) (Kd.R_far (p:=⟨g,1,none⟩) (Kd.R_far (p:=⟨g,0,none⟩) h hok u0) hok u1) hok u2) hok u3)
theorem mSf3 {α:Type} {d:Kd α} {e:Nat} {w:World} {base g:Nat} {ok:Nat→Prop} {v:Value} {xs:List α} {u0 u1 u2:Value} (h:Kd.S d e w base ok v xs) (hok:∀k,ok k→k≠g:=by exact fun _ hk=>hk.2):Kd.S d e (((w.setCell ⟨g,0,none⟩ u0).setCell ⟨g,1,none⟩ u1).setCell ⟨g,2,none⟩ u2) base ok v xs:=(Kd.S_far (p:=⟨g,2,none⟩) (Kd.S_far (p:=⟨g,1,none⟩) (Kd.S_far (p:=⟨g,0,none⟩) h hok u0) hok u1) hok u2)
theorem mSf4 {α:Type} {d:Kd α} {e:Nat} {w:World} {base g:Nat} {ok:Nat→Prop} {v:Value} {xs:List α} {u0 u1 u2 u3:Value} (h:Kd.S d e w base ok v xs) (hok:∀k,ok k→k≠g:=by exact fun _ hk=>hk.2):Kd.S d e ((((w.setCell ⟨g,0,none⟩ u0).setCell ⟨g,1,none⟩ u1).setCell ⟨g,2,none⟩ u2).setCell ⟨g,3,none⟩ u3) base ok v xs:=(Kd.S_far (p:=⟨g,3,none⟩) (Kd.S_far (p:=⟨g,2,none⟩) (Kd.S_far (p:=⟨g,1,none⟩) (Kd.S_far (p:=⟨g,0,none⟩) h hok u0) hok u1) hok u2) hok u3)
theorem mNf4 {α:Type} {d:Kd α} {e:Nat} {w:World} {base g:Nat} {ok:Nat→Prop} {v:Value} {xs:List α} {u0 u1 u2 u3:Value} (h:Kd.N d e w base ok v xs) (hok:∀k,ok k→k≠g:=by exact fun _ hk=>hk.2):Kd.N d e ((((w.setCell ⟨g,0,none⟩ u0).setCell ⟨g,1,none⟩ u1).setCell ⟨g,2,none⟩ u2).setCell ⟨g,3,none⟩ u3) base ok v xs:=(Kd.N_far (p:=⟨g,3,none⟩) (Kd.N_far (p:=⟨g,2,none⟩) (Kd.N_far (p:=⟨g,1,none⟩) (Kd.N_far (p:=⟨g,0,none⟩) h hok u0) hok u1) hok u2) hok u3)
section
variable {P:Program} {ops:Array Oper} {rest:List Oper} {o:Oper} {a:Act} {Q:Exit→Act→World→Prop}
theorem mBx {W:World} (N:Tmp) (cs:Array Value) (t:TypeId)
 (h:∀g,g=W.heap.size→∀w1,w1.heap[g]? = some (.cells cs t (0,0))→Below W.heap.size W w1→wpList P ops Q rest (a.put o.dst (.pointer (some ⟨g,0,none⟩))) w1)
 (hgd:o.guard=none:=by rfl) (hd:o.dst=some N:=by rfl)
 (hrun:(execOp a.eval o).run P W = .ok (.value (.pointer (some ⟨W.heap.size,0,none⟩))) (W.alloc (.cells cs t (0,0))):=by first|(go_simp;done)|(go_simp;rfl)):wpList P ops Q (o::rest) a W:=
 box_event hgd hd hrun h
end
abbrev mr (l:List Nat):Array Bool:=⟨(l.foldl (fun p n=>(p.1++List.replicate n p.2,!p.2)) (([]:List Bool),true)).1⟩
theorem mEw {p:Prop} (h:p:=by first|rfl|(simp[errW_none,errW_some]<;>rfl)|(simp[*,errW_none,errW_some]<;>rfl)):p:=h
theorem mc2 {w:World} {g:Nat} {t:TypeId} {cs:Array Value} {u0 u1:Value} (h:w.heap[g]? = some (.cells cs t (0,0))) (e0:cs[0]? = some u0:=by rfl) (e1:cs[1]? = some u1:=by rfl):w.cell? ⟨g,0,none⟩=some u0∧w.cell? ⟨g,1,none⟩=some u1:=⟨mZ h 0 e0,mZ h 1 e1⟩
theorem mb2 {w:World} {g:Nat} {t:TypeId} {cs:Array Value} {u0 u1:Value} {p:Prop} (h:w.heap[g]? = some (.cells cs t (0,0))) (r:p) (e0:cs[0]? = some u0:=by rfl) (e1:cs[1]? = some u1:=by rfl):w.cell? ⟨g,0,none⟩=some u0∧w.cell? ⟨g,1,none⟩=some u1∧p:=⟨mZ h 0 e0,mZ h 1 e1,r⟩
theorem mc3 {w:World} {g:Nat} {t:TypeId} {cs:Array Value} {u0 u1 u2:Value} (h:w.heap[g]? = some (.cells cs t (0,0))) (e0:cs[0]? = some u0:=by rfl) (e1:cs[1]? = some u1:=by rfl) (e2:cs[2]? = some u2:=by rfl):w.cell? ⟨g,0,none⟩=some u0∧w.cell? ⟨g,1,none⟩=some u1∧w.cell? ⟨g,2,none⟩=some u2:=⟨mZ h 0 e0,mZ h 1 e1,mZ h 2 e2⟩
theorem mb3 {w:World} {g:Nat} {t:TypeId} {cs:Array Value} {u0 u1 u2:Value} {p:Prop} (h:w.heap[g]? = some (.cells cs t (0,0))) (r:p) (e0:cs[0]? = some u0:=by rfl) (e1:cs[1]? = some u1:=by rfl) (e2:cs[2]? = some u2:=by rfl):w.cell? ⟨g,0,none⟩=some u0∧w.cell? ⟨g,1,none⟩=some u1∧w.cell? ⟨g,2,none⟩=some u2∧p:=⟨mZ h 0 e0,mZ h 1 e1,mZ h 2 e2,r⟩
theorem mc4 {w:World} {g:Nat} {t:TypeId} {cs:Array Value} {u0 u1 u2 u3:Value} (h:w.heap[g]? = some (.cells cs t (0,0))) (e0:cs[0]? = some u0:=by rfl) (e1:cs[1]? = some u1:=by rfl) (e2:cs[2]? = some u2:=by rfl) (e3:cs[3]? = some u3:=by rfl):w.cell? ⟨g,0,none⟩=some u0∧w.cell? ⟨g,1,none⟩=some u1∧w.cell? ⟨g,2,none⟩=some u2∧w.cell? ⟨g,3,none⟩=some u3:=⟨mZ h 0 e0,mZ h 1 e1,mZ h 2 e2,mZ h 3 e3⟩
theorem mb4 {w:World} {g:Nat} {t:TypeId} {cs:Array Value} {u0 u1 u2 u3:Value} {p:Prop} (h:w.heap[g]? = some (.cells cs t (0,0))) (r:p) (e0:cs[0]? = some u0:=by rfl) (e1:cs[1]? = some u1:=by rfl) (e2:cs[2]? = some u2:=by rfl) (e3:cs[3]? = some u3:=by rfl):w.cell? ⟨g,0,none⟩=some u0∧w.cell? ⟨g,1,none⟩=some u1∧w.cell? ⟨g,2,none⟩=some u2∧w.cell? ⟨g,3,none⟩=some u3∧p:=⟨mZ h 0 e0,mZ h 1 e1,mZ h 2 e2,mZ h 3 e3,r⟩
theorem mc6 {w:World} {g:Nat} {t:TypeId} {cs:Array Value} {u0 u1 u2 u3 u4 u5:Value} (h:w.heap[g]? = some (.cells cs t (0,0))) (e0:cs[0]? = some u0:=by rfl) (e1:cs[1]? = some u1:=by rfl) (e2:cs[2]? = some u2:=by rfl) (e3:cs[3]? = some u3:=by rfl) (e4:cs[4]? = some u4:=by rfl) (e5:cs[5]? = some u5:=by rfl):w.cell? ⟨g,0,none⟩=some u0∧w.cell? ⟨g,1,none⟩=some u1∧w.cell? ⟨g,2,none⟩=some u2∧w.cell? ⟨g,3,none⟩=some u3∧w.cell? ⟨g,4,none⟩=some u4∧w.cell? ⟨g,5,none⟩=some u5:=⟨mZ h 0 e0,mZ h 1 e1,mZ h 2 e2,mZ h 3 e3,mZ h 4 e4,mZ h 5 e5⟩
section
variable {P:Program} {md:Region.Mode} {ops:Array Oper} {Q:Exit→Act→World→Prop} {S:World→Prop} {ds:List Nat} {T:Bool × List (List Nat × List Nat)}
theorem mpu (i:Nat) (n:Tmp) (hT:rtab md ops=T) {oi:Oper} {v:Value} {fuel:Nat} {l:Array Bool} {a a':Act} {w:World} (l':Array Bool) (h:wpAnyLast P md ops Q S ds fuel l' a' w)
 (hi:ops[i]? = some oi:=by exact rfl) (hN:oi.dst=some n:=by exact rfl) (hk:anyT T l.toList l'.toList i=true:=by kernel_rfl) (hQ:∀c a w,Q (.panic c) (a.put oi.dst v) w→Q (.panic c) a w:=by exact fun _ _ _ h=>h)
 (hw:Region.wanted oi (yielded ops a.tmps)=true:=by rfl) (hv:∀w,(execOp a.eval oi).run P w = .ok (.value v) w:=by intro w';go_simp;with_reducible rfl) (ha:a.put (some n) v=a':=by simp only[Act.put,zA,zB,zC,i64_w,i32_w];rfl) :
 wpAnyLast P md ops Q S ds (fuel+1) l a w:=pure_ l' hi hN (any_of hT hk) hQ (Or.inl ⟨hw,hv⟩) ha h
theorem mpf (i:Nat) (n:Tmp) (hT:rtab md ops=T) {oi:Oper} {fuel:Nat} {l:Array Bool} {a a':Act} {w:World} (l':Array Bool) (h:wpAnyLast P md ops Q S ds fuel l' a' w)
 (hi:ops[i]? = some oi:=by exact rfl) (hN:oi.dst=some n:=by exact rfl) (hk:anyT T l.toList l'.toList i=true:=by kernel_rfl) (hQ:∀c a w,Q (.panic c) (a.put oi.dst undef) w→Q (.panic c) a w:=by exact fun _ _ _ h=>h)
 (hw:Region.wanted oi (yielded ops a.tmps)=false:=by rfl) (ha:a.put (some n) undef=a':=by simp only[Act.put,zA,zB,zC,i64_w,i32_w];rfl) :
 wpAnyLast P md ops Q S ds (fuel+1) l a w:=pure_ l' hi hN (any_of hT hk) hQ (Or.inr ⟨hw,rfl⟩) ha h
theorem mpt (i:Nat) (n:Tmp) {B:List Nat} (hT:rtab md ops=T) (hB:waitsOk T.2 B=true) {oi:Oper} {v:Value} {fuel:Nat} {l:Array Bool} {a a':Act} {w:World} (l':Array Bool) (hS:S w) (h:wpAnyLast P md ops Q S ds fuel l' a' w)
 (hi:ops[i]? = some oi:=by exact rfl) (hN:oi.dst=some n:=by exact rfl) (hk:takeW T B ds l.toList l'.toList i=true:=by kernel_rfl) (hQ:∀c a w,Q (.panic c) (a.put oi.dst v) w→Q (.panic c) a w:=by exact fun _ _ _ h=>h)
 (hw:Region.wanted oi (yielded ops a.tmps)=true:=by rfl) (hv:∀w,S w→(execOp a.eval oi).run P w = .ok (.value v) w:=by intro w' hs_;repeat (obtain⟨s_,hs_⟩:=hs_);go_simp;with_reducible rfl) (ha:a.put (some n) v=a':=by simp only[Act.put,zA,zB,zC,i64_w,i32_w];rfl) :
 wpAnyLast P md ops Q S ds (fuel+1) l a w:=take_ l' hi hN (take_ofW hT hB hk) hQ (Or.inl ⟨hw,hv⟩) hS ha h
theorem mno (N:Tmp) {fuel:Nat} {l:Array Bool} {a a':Act} {v:Value} {w:World} (h:wpAnyLast P md ops Q S ds fuel l a' w) (e:a.put (some N) v=a':=by simp only[Act.put,zA,zB,zC,i64_w,i32_w];rfl):wpAnyLast P md ops Q S ds fuel l (a.put (some N) v) w:=norm_ e h
theorem mnp {fuel:Nat} {l:Array Bool} {a a':Act} {w:World} (h:wpAnyLast P md ops Q S ds fuel l a' w) (e:a=a':=by simp only[putAll,Act.put,zA,zB,zC];rfl):wpAnyLast P md ops Q S ds fuel l a w:=norm_ e h
theorem mnx {fuel:Nat} {l:Array Bool} {a a':Act} {w:World} (h:wpAnyLast P md ops Q S ds fuel l a' w) (e:a=a':=by first|(simp only[putAll,Act.put,zA,zB,zC];done)|(simp only[putAll,Act.put,zA,zB,zC];rfl)):wpAnyLast P md ops Q S ds fuel l a w:=norm_ e h
theorem mone (i:Nat) (N:Option Tmp) (hT:rtab md ops=T) {oi:Oper} {fuel:Nat} {l:Array Bool} {a:Act} {w:World} (l':Array Bool)
 (h:∀K:Act→World→Prop,Shut (∀a' w',S w'→(S w'→wpAnyLast P md ops Q S ds fuel l' a' w')→K a' w')→if Region.wanted oi (yielded ops a.tmps)=true then Oper.wp P oi a w K Q else K (a.put N undef) w)
 (hi:ops[i]? = some oi:=by exact rfl) (hN:oi.dst=N:=by exact rfl) (hk:(readyT T.2 l.toList == [i]&&l.toList.set i true == l'.toList)=true:=by kernel_rfl) (hd:i ∉ ds:=by decide):wpAnyLast P md ops Q S ds (fuel+1) l a w:=one_ l' hi hN (one_of hT hk) hd h
end
section
variable {P:Program} {ops:Array Oper} {Q:Exit→Act→World→Prop}
theorem mGo {rest:List Oper} {oi:Oper} {a:Act} {w:World} (n:Tmp) {f:FuncId} {fn:Func} {as:Array Operand} {ts:Array TypeId} (hf:P.funcs[f]? = some fn) (args:Array Value)
 (h:Calls P f args w fun e w'=>∃v,e = .returned v∧wpList P ops Q rest (a.put (some n) v) w')
 (hd:oi.dst=some n:=by rfl) (hg:oi.guard=none:=by rfl) (hname:(fn.name == "runtime.NumGoroutine")=false:=by kernel_rfl) (hb:fn.body.isSome=true:=by rfl)
 (hop:oi.op = .call { callee:=.value (.func f),args:=as,argTypes:=ts }:=by rfl) (hargs:as.map a.eval=args:=by (try simp only[List.map_toArray,List.map_cons,List.map_nil]);first|done|rfl|(simp only[List.length_drop,List.length_take];rfl)):wpList P ops Q (oi::rest) a w:=goesL_ (some n) hd hg hf hname hb args hop hargs h
end
end Go.Proofs.Ytgpkdbnikcghgaa.MWords
