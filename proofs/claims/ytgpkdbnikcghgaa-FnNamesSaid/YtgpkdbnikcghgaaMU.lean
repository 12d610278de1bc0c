/-
  Words for walks by hand over disks: a disk is the cells 'cs' of its box; what is known of values is one bundle with its footprint (Foot), carried over each event in one step (St).
-/
import Derived.Test.YtgpkdbnikcghgaaVAll
import Derived.Test.YtgpkdbnikcghgaaMDx0
import Derived.Laws.CopyRow
import Derived.Laws.Rows
namespace Go.Proofs.Ytgpkdbnikcghgaa.MD
open Go.RowKit Go.Proofs.YtgpkdbnikcghgaaW.PrintWords Go.Proofs.YtgpkdbnikcghgaaW.PrintLast Go.Proofs.YtgpkdbnikcghgaaW.PrintMore Go.Proofs.Ytgpkdbnikcghgaa.MWords
set_option linter.unusedVariables false
set_option linter.unusedSimpArgs false
abbrev Dk:=nw
def eT (cs:Array Value) (d:Dk) (w:World):Prop:=Iw.K w d cs.toList
theorem eT.open {cs:Array Value} {d:Dk} {w:World} (h:eT cs d w):∃A0 c0 A1 c1 A2 c2,cs=#[.slice A0 d.f0.length c0,.slice A1 d.f1.length c1,.slice A2 d.f2.length c2,.int .i64 d.f3]∧d.f0.length≤c0∧bu.C w A0 d.f0.length d.f0∧d.f1.length≤c1∧ay.C w A1 d.f1.length d.f1∧d.f2.length≤c2∧ay.C w A2 d.f2.length d.f2:=by
 obtain⟨A0,c0,A1,c1,A2,c2,e,r⟩:=aod h;exact⟨A0,c0,A1,c1,A2,c2,Array.ext' e,r⟩
theorem eT.size {cs:Array Value} {d:Dk} {w:World} (h:eT cs d w):cs.size=4:=by
 obtain⟨_,_,_,_,_,_,rfl,_⟩:=h.open;rfl
theorem eT.one {cs:Array Value} {d:Dk} {w:World} (h:eT cs d w):∀u ∈ cs.toList,u.oneCell'=true:=Iw.K_one h
def Rs (w w':World) (cs:Array Value) (d:Dk):Prop:=Foot (eT cs d) w' (fun k=>w.heap.size≤k)∧Below w.heap.size w w'
theorem aje {W:World} {ok:Nat→Prop} {l0:List aj} {l1 l2:List ah} {n:Int} {A0 A1 A2:Option Addr} {c0 c1 c2:Nat} (e0:l0.length≤c0) (h0:Kd.F bu W ok A0 l0.length l0) (e1:l1.length≤c1) (h1:Kd.F ay W ok A1 l1.length l1) (e2:l2.length≤c2) (h2:Kd.F ay W ok A2 l2.length l2) :
 Foot (eT #[.slice A0 l0.length c0,.slice A1 l1.length c1,.slice A2 l2.length c2,.int .i64 n] ⟨l0,l1,l2,n⟩) W ok:=fun W' hW=>L6 W' ⟨l0,l1,l2,n⟩ e0 (h0 W' hW) e1 (h1 W' hW) e2 (h2 W' hW)
theorem ao1 {w w':World} {p1 p2:Nat→Prop} {v1 v2:Value} {l1 l2:List ah} {n:Int} {l0:List aj} {A0:Option Addr} {c0:Nat} (e0:l0.length≤c0) (h0:Kd.F bu w' (fun k=>w.heap.size≤k) A0 l0.length l0) (h1:Kd.R ay 63 w' w.heap.size p1 v1 l1) (h2:Kd.R ay 63 w' w.heap.size p2 v2 l2) (hb:Below w.heap.size w w') :
 Rs w w' #[.slice A0 l0.length c0,v1,v2,.int .i64 n] ⟨l0,l1,l2,n⟩:=by
 have g1:=Kd.jS h1;have g2:=Kd.jS h2;obtain⟨A1,c1,rfl,e1,_⟩:=Kd.qb g1;obtain⟨A2,c2,rfl,e2,_⟩:=Kd.qb g2;exact⟨aje e0 h0 e1 (Kd.tD (Kd.CR g1) (fun k hk=>hk.2.1)) e2 (Kd.tD (Kd.CR g2) (fun k hk=>hk.2.1)),hb⟩
theorem Uh {w w':World} {p0 p1 p2:Nat→Prop} {v0 v1 v2:Value} {l0:List aj} {l1 l2:List ah} {n:Int} (h0:Kd.S bu 80 w' w.heap.size p0 v0 l0) (h1:Kd.R ay 63 w' w.heap.size p1 v1 l1) (h2:Kd.R ay 63 w' w.heap.size p2 v2 l2) (hb:Below w.heap.size w w') :
 Rs w w' #[v0,v1,v2,.int .i64 n] ⟨l0,l1,l2,n⟩:=by
 have g0:=Kd.oK h0;obtain⟨A0,c0,rfl⟩:=Kd.pC g0;have e0:=(Kd.tQ g0).2.1;exact ao1 e0 (Kd.tD (Kd.CR (Kd.sT g0)) (fun k hk=>hk.2.1)) h1 h2 hb
def Fr (b:Nat) (ok:Nat→Prop) (cs:Array Value) (d:Dk) (W:World):Prop:=∃v0 v1 v2,cs=#[v0,v1,v2,.int .i64 d.f3]∧Kd.N bu 80 W b (fun k=>ok k∧some k≠v1.ownBlock∧some k≠v2.ownBlock) v0 d.f0∧Kd.R ay 63 W b (fun k=>ok k∧some k≠v2.ownBlock) v1 d.f1∧Kd.R ay 63 W b (fun k=>ok k∧some k≠v1.ownBlock) v2 d.f2
abbrev Fd (b:Nat) (cs:Array Value) (d:Dk) (W:World):Prop:=Fr b (fun k=>b≤k) cs d W
section
variable {b b':Nat} {ok ok':Nat→Prop} {cs:Array Value} {d:Dk} {w w' W:World}
theorem Fr.jN (h:Fr b ok cs d W):eT cs d W:=by
 obtain⟨v0,v1,v2,rfl,h0,h1,h2⟩:=h;obtain⟨A0,c0,rfl⟩:=Kd.lp h0;obtain⟨A1,c1,rfl,e1,g1⟩:=Kd.qb h1;obtain⟨A2,c2,rfl,e2,g2⟩:=Kd.qb h2;have e0:=Kd.kz h0;exact L6 W d e0.2.1 e0.2.2 e1 g1 e2 g2
theorem Fr.size (h:Fr b ok cs d W):cs.size=4:=h.jN.size
theorem Fr.mono (h:Fr b ok cs d W) (hb:b'≤b) (hk:∀k,ok k→ok' k):Fr b' ok' cs d W:=by
 obtain⟨v0,v1,v2,e,h0,h1,h2⟩:=h;exact⟨v0,v1,v2,e,Kd.nr (Kd.bM h0 (fun k h=>⟨hk k h.1,h.2⟩)) hb,Kd.cR (Kd.aD h1 (fun k h=>⟨hk k h.1,h.2⟩)) hb,Kd.cR (Kd.aD h2 (fun k h=>⟨hk k h.1,h.2⟩)) hb⟩
theorem Fr.low (h:Fd b cs d W) (hb:b'≤b):Fd b' cs d W:=Fr.mono h hb (fun k hk=>Nat.le_trans hb hk)
theorem Fr.F1 (h:Fr b ok cs d W):Foot (Fr b ok cs d) W ok:=fun W' hW=>by
 obtain⟨v0,v1,v2,e,h0,h1,h2⟩:=h;exact⟨v0,v1,v2,e,Kd.CO h0 (fun k hk=>hW k hk.1),Kd.vz h1 (fun k hk=>hW k hk.1),Kd.vz h2 (fun k hk=>hW k hk.1)⟩
theorem Fr.zw (h:Fr b ok cs d W):Fr b (fun k=>ok k∧k<W.heap.size) cs d W:=by
 obtain⟨v0,v1,v2,e,h0,h1,h2⟩:=h;exact⟨v0,v1,v2,e,Kd.bM (Kd.CN h0) (fun k h=>⟨⟨h.1.1,h.2⟩,h.1.2⟩),Kd.aD (Kd.jS h1) (fun k h=>⟨⟨h.1.1,h.2.2.1⟩,h.1.2⟩),Kd.aD (Kd.jS h2) (fun k h=>⟨⟨h.1.1,h.2.2.1⟩,h.1.2⟩)⟩
def Rf (w w':World) (cs:Array Value) (d:Dk):Prop:=Foot (Fd w.heap.size cs d) w' (fun k=>w.heap.size≤k)∧Below w.heap.size w w'
theorem QF {p0 p1 p2:Nat→Prop} {v0 v1 v2:Value} {l0:List aj} {l1 l2:List ah} {n:Int} (h0:Kd.S bu 80 W b p0 v0 l0) (h1:Kd.R ay 63 W b p1 v1 l1) (h2:Kd.R ay 63 W b p2 v2 l2) (q1:∀k,p1 k→some k≠v2.ownBlock:=by exact fun _ h=>h) (q2:∀k,p2 k→some k≠v1.ownBlock:=by exact fun _ h=>h):Fd b #[v0,v1,v2,.int .i64 n] ⟨l0,l1,l2,n⟩ W:=
 ⟨v0,v1,v2,rfl,Kd.tP (Kd.gI (Kd.oK (Kd.lr (Kd.lr h0 (Kd.fC h1) (by decide)) (Kd.fC h2) (by decide))) (fun k h=>⟨h.2.1,h.1.1.2,h.1.2⟩)),Kd.aD (Kd.jS h1) (fun k h=>⟨h.2.1,q1 k h.1⟩),Kd.aD (Kd.jS h2) (fun k h=>⟨h.2.1,q2 k h.1⟩)⟩
theorem Fr.rf (h:Fd w.heap.size cs d w') (hb:Below w.heap.size w w'):Rf w w' cs d:=⟨Fr.F1 h,hb⟩
theorem Rf.rs (h:Rf w w' cs d):Rs w w' cs d:=⟨h.1.imp (fun _ h=>h.jN),h.2⟩
end
structure St (w0:World) (X:Nat→Prop) (bs:List (Nat × Array Value)) (Q:World→Prop) (w:World):Prop where
 be:Below w0.heap.size w0 w
 ft:Foot Q w (fun k=>¬X k∧∀b ∈ bs,b.1≠k)
 bx:∀b ∈ bs,w0.heap.size≤b.1∧b.2.size=4∧w.heap[b.1]? = some (.cells b.2 30 (0,0))
 nd:bs.Pairwise (fun a b=>a.1≠b.1)
section
variable {w0 w w1:World} {X:Nat→Prop} {bs:List (Nat × Array Value)} {Q Q':World→Prop} {g:Nat} {cs cs':Array Value}
theorem St.q (h:St w0 X bs Q w):Q w:=h.ft.now
theorem St.below (h:St w0 X bs Q w) (hb:Below w.heap.size w w1):St w0 X bs Q w1:=
 ⟨aK h.be hb,h.ft.step (fun k _ hk=>hb.block k hk),fun b hm=>⟨(h.bx b hm).1,(h.bx b hm).2.1,bH (h.bx b hm).2.2 hb⟩,h.nd⟩
theorem St.keep (h:St w0 X bs Q w) (hb:Below w0.heap.size w0 w1) (hk:cL w w1 g none) (hx:X g) (hn:∀b ∈ bs,b.1≠g):St w0 X bs Q w1:=
 ⟨hb,h.ft.step (fun k ho hl=>hk.2 k hl (fun e=>ho.1 (e▸hx)) (by simp)),fun b hm=>⟨(h.bx b hm).1,(h.bx b hm).2.1,by rw[hk.2 _ (kT (h.bx b hm).2.2) (hn b hm) (by simp)];exact(h.bx b hm).2.2⟩,h.nd⟩
theorem St.drew (h:St w0 X bs Q w):St w0 X bs Q w.drew:=h.below (yP (Below.refl _ _))
theorem St.drewN (h:St w0 X bs Q w) (n:Nat):St w0 X bs Q (w.drewN n):=h.below (gy (Below.refl _ _) n)
theorem St.and (h:St w0 X bs Q w) (hq:Foot Q' w (fun k=>¬X k∧∀b ∈ bs,b.1≠k)):St w0 X bs (fun W=>Q W∧Q' W) w:=⟨h.be,fun W hW=>⟨h.ft W hW,hq W hW⟩,h.bx,h.nd⟩
theorem St.imp (h:St w0 X bs Q w) (hi:∀W,Q W→Q' W):St w0 X bs Q' w:=⟨h.be,h.ft.imp hi,h.bx,h.nd⟩
theorem St.call (h:St w0 X bs Q w) (hb:Below w.heap.size w w1) (hq:Foot Q' w1 (fun k=>w.heap.size≤k)) (hx:∀k,w.heap.size≤k→¬X k):St w0 X bs (fun W=>Q W∧Q' W) w1:=
 (h.below hb).and (hq.mono (fun k hk=>⟨hx k hk,fun b hm e=>by have:=kT (h.bx b hm).2.2;omega⟩))
theorem St.box (h:St w0 X bs Q w) (hg:g=w.heap.size) (hbox:w1.heap[g]? = some (.cells cs 30 (0,0))) (hb:Below w.heap.size w w1) (hs:cs.size=4):St w0 X ((g,cs)::bs) Q w1:=by
 have h1:=h.below hb;refine⟨h1.be,(h.ft.zw hb).mono (fun k hk=>⟨hk.1.1,fun b hm=>?_⟩),fun b hm=>?_,List.pairwise_cons.2 ⟨fun b hm e=>?_,h.nd⟩⟩
 ·rcases List.mem_cons.1 hm with rfl|hm
  ·exact fun e=>by have:=hk.2;simp only at e;omega
  ·exact hk.1.2 b hm
 ·rcases List.mem_cons.1 hm with rfl|hm
  ·exact⟨by have:=h.be.size;simp only;omega,hs,hbox⟩
  ·exact h1.bx b hm
 ·have:=kT (h.bx b hm).2.2;simp only at e;omega
theorem St.set (h:St w0 X bs Q w) (i:Nat) (hi:bs[i]? = some (g,cs)) (hs:cs'.size=4):St w0 X (bs.set i (g,cs')) Q (w.setRow g cs'):=by
 have hm:(g,cs) ∈ bs:=List.mem_of_getElem? hi;have hbx:=h.bx _ hm;have hil:i<bs.length:=(List.getElem?_eq_some_iff.1 hi).1;have hgi:bs[i]=(g,cs):=(List.getElem?_eq_some_iff.1 hi).2;have ho:∀k,k≠g→(w.setRow g cs').heap[k]? = w.heap[k]?:=fun k hk=>by simp only[World.setRow,Array.getElem?_modify];rw[if_neg (fun e=>hk e.symm)]
 have hfst:∀b ∈ bs.set i (g,cs'),∃b' ∈ bs,b'.1=b.1:=fun b hb=>by
  rcases List.mem_or_eq_of_mem_set hb with hb|rfl
  ·exact⟨b,hb,rfl⟩
  ·exact⟨_,hm,rfl⟩
 have hmap:(bs.set i (g,cs')).map (·.1)=bs.map (·.1):=by
  rw[List.map_set];refine List.ext_getElem? (fun j=>?_);rw[List.getElem?_set];split
  ·rename_i e;subst e;simp[hil,hgi]
  ·rfl
 refine⟨?_,h.ft.step (fun k hk _=>ho k (fun e=>hk.2 _ hm e.symm)) |>.mono (fun k hk=>⟨hk.1,fun b hb=>?_⟩),fun b hb=>?_,?_⟩
 ·exact h.be.trans ⟨rfl,rfl,rfl,by simp[World.setRow],fun k hk=>ho k (by have:=hbx.1;simp only at this;omega)⟩
 ·obtain⟨b',hb',e⟩:=hfst b hb;rw[←e];exact hk.2 b' hb'
 ·obtain⟨j,hj⟩:=List.mem_iff_getElem?.1 hb;rw[List.getElem?_set]at hj;by_cases e:i=j
  ·subst e;rw[if_pos rfl,if_pos hil]at hj;obtain rfl:=Option.some.inj hj;refine⟨hbx.1,hs,?_⟩;exact setRow_heap w g cs _ _ _ hbx.2.2
  ·rw[if_neg e]at hj;have hbm:=List.mem_of_getElem? hj;obtain⟨a1,a2,a3⟩:=h.bx b hbm;refine⟨a1,a2,(ho _ (fun e2=>?_)).trans a3⟩;obtain⟨hjl,hjb⟩:=List.getElem?_eq_some_iff.1 hj;have hp:=List.pairwise_iff_getElem.1 h.nd
   rcases Nat.lt_or_ge i j with hlt|hge
   ·have:=hp i j hil hjl hlt;rw[hgi,hjb]at this;exact this e2.symm
   ·have:=hp j i hjl hil (by omega);rw[hgi,hjb]at this;exact this e2
 ·rw[←List.pairwise_map (R:=fun a b=>a≠b)] at *
  rw[hmap];exact List.pairwise_map.2 h.nd
end
section
variable {ops:Array Oper} {rest:List Oper} {o:Oper} {a:Act} {K:Exit→Act→World→Prop} {w0 w:World} {X:Nat→Prop} {bs:List (Nat × Array Value)} {Q:World→Prop} {g:Nat} {cs cs':Array Value} {d:Dk}
theorem Try.rA:(Try.prog.info? 30).map (·.size)=some 4:=by kernel_rfl
theorem nN (i:Nat) (HS:St w0 X bs Q w) {p:Tmp}
 (h:wpList Try.prog ops K rest (a.put o.dst (.agg cs)) w)
 (hi:bs[i]? = some (g,cs):=by rfl) (ho:o.op = .load 30 (.tmp p):=by rfl) (he:a.eval (.tmp p) = .pointer (some ⟨g,0,none⟩):=by rfl) (hg:o.guard=none:=by rfl):wpList Try.prog ops K (o::rest) a w:=by
 have hb:=HS.bx _ (List.mem_of_getElem? hi);exact wpList_load_row hg 30 (.tmp p) ho g he 30 cs (0,0) _ hb.2.2 Try.underlying30 rfl (by rw[Try.rA];exact congrArg some hb.2.1.symm) h
theorem acI {w:World} (hb:w.heap[g]? = some (.cells cs 30 (0,0))) (h4:cs.size=4) (YF:cs'.size=4) (h1:∀u ∈ cs'.toList,u.oneCell'=true):(Instr.storeAt 30 (.pointer (some ⟨g,0,none⟩)) (.agg cs')).run Try.prog w = .ok () (w.setRow g cs'):=by
 have hst:=run_storeVar_row (P:=Try.prog) w g 30 30 cs cs' hb (by rw[Try.rA,YF]) (by rw[h4,YF]) (by rw[Array.all_eq_true_iff_forall_mem];exact fun u hu=>h1 u (by simpa using hu));simp only[Instr.storeAt,Instr.sureAddr,Sem.run_bind,Sem.run_pure,Result.andThen];exact hst
theorem yb (i:Nat) (HS:St w0 X bs Q w) (hd:eT cs' d w) {p:Tmp} {x:Operand}
 (h:∀w1,St w0 X (bs.set i (g,cs')) Q w1→wpList Try.prog ops K rest a w1)
 (hi:bs[i]? = some (g,cs):=by rfl) (ho:o.op = .store 30 (.tmp p) x:=by rfl) (he:a.eval (.tmp p) = .pointer (some ⟨g,0,none⟩):=by rfl) (hx:a.eval x = .agg cs':=by rfl) (hN:o.dst=none:=by rfl) (hg:o.guard=none:=by rfl):wpList Try.prog ops K (o::rest) a w:=by
 have hb:=HS.bx _ (List.mem_of_getElem? hi);refine wpList_plain hg fun K' hK=>?_
 have hrun:(execOp a.eval o).run Try.prog w = .ok .skip (w.setRow g cs'):=by
  unfold execOp;simp[ho,he,hx,acI hb.2.2 hb.2.1 hd.size hd.one]
 unfold Oper.wp;rw[hrun];show K' (a.put o.dst undef) _;rw[hN];exact hK _ _ (h _ (HS.set i hi hd.size))
end
end Go.Proofs.Ytgpkdbnikcghgaa.MD
