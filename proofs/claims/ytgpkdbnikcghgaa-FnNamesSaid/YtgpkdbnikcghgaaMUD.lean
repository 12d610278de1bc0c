/- Words for walks by hand that draw: the cursor of draws beside boxes of disks; steps of a region whose order is drawn. -/
import Derived.Test.YtgpkdbnikcghgaaMS
import Derived.Test.YtgpkdbnikcghgaaMPR
namespace Go.Proofs.Ytgpkdbnikcghgaa.MD
open Go.RowKit Go.Proofs.YtgpkdbnikcghgaaW.PrintWords Go.Proofs.YtgpkdbnikcghgaaW.PrintLast Go.Proofs.YtgpkdbnikcghgaaW.PrintMore Go.Proofs.Ytgpkdbnikcghgaa.MWords Go.Proofs.Ytgpkdbnikcghgaa.MPD
set_option linter.unusedVariables false
def ma (w0 w:World) (g:Nat):Prop:=∃b i h,aQ w0 w g b i h∧b.length≤1048576∧At b i
def Cm (w0 w w':World) (g:Nat):Prop:=ma w0 w' g∧Below w0.heap.size w0 w'∧cL w w' g none
structure Sd (w0 we:World) (g:Nat) (bs:List (Nat × Array Value)) (Q:World→Prop) (w:World):Prop where
 st:St w0 (fun k=>k<we.heap.size) bs Q w
 cu:ma w0 w g
 kb:cL we w g none
 hg:g<we.heap.size
 hw:w0.heap.size≤we.heap.size
 hb:∀b ∈ bs,we.heap.size≤b.1
theorem ma.keep {w0 w w1:World} {g:Nat} (h:ma w0 w g) (e:w1.heap[g]? = w.heap[g]?):ma w0 w1 g:=by
 obtain⟨b,i,x,⟨A,c,h1,h2,h3⟩,r⟩:=h;exact⟨b,i,x,⟨A,c,e.trans h1,h2,h3⟩,r⟩
theorem ma.lt {w0 w:World} {g:Nat} (h:ma w0 w g):g<w.heap.size:=by
 obtain⟨b,i,x,hI,_⟩:=h;exact hI.lt
section
variable {w0 we w w1:World} {bs:List (Nat × Array Value)} {Q Q':World→Prop} {g gb:Nat} {cs cs':Array Value} {d:Dk}
theorem Sd.q (h:Sd w0 we g bs Q w):Q w:=h.st.q
theorem Sd.start (hC:ma w0 w g) (hB:Below w0.heap.size w0 w):Sd w0 w g [] (fun _=>True) w:=
 ⟨⟨hB,fun _ _=>trivial,fun b hb=>absurd hb (by simp),List.Pairwise.nil⟩,hC,cL.refl _ _ _,hC.lt,hB.size,fun b hb=>absurd hb (by simp)⟩
theorem Sd.below (h:Sd w0 we g bs Q w) (hb:Below w.heap.size w w1):Sd w0 we g bs Q w1:=
 ⟨h.st.below hb,h.cu.keep (hb.block g h.cu.lt),h.kb.trans (cL.te hb g none) (.inl rfl),h.hg,h.hw,h.hb⟩
theorem Sd.drew (h:Sd w0 we g bs Q w):Sd w0 we g bs Q w.drew:=h.below (yP (Below.refl _ _))
theorem Sd.call (h:Sd w0 we g bs Q w) (hb:Below w.heap.size w w1) (hq:Foot Q' w1 (fun k=>w.heap.size≤k)):Sd w0 we g bs (fun W=>Q W∧Q' W) w1:=
 ⟨h.st.call hb hq (fun k hk hl=>by have:=h.kb.1;omega),(h.below hb).cu,(h.below hb).kb,h.hg,h.hw,h.hb⟩
theorem Sd.imp (h:Sd w0 we g bs Q w) (hi:∀W,Q W→Q' W):Sd w0 we g bs Q' w:=⟨h.st.imp hi,h.cu,h.kb,h.hg,h.hw,h.hb⟩
theorem Sd.draw (h:Sd w0 we g bs Q w) (hc:Cm w0 w w1 g):Sd w0 we g bs Q w1:=
 ⟨h.st.keep hc.2.1 hc.2.2 h.hg (fun b hm e=>by have:=h.hb b hm;have:=h.hg;omega),hc.1,h.kb.trans hc.2.2 (.inl rfl),h.hg,h.hw,h.hb⟩
theorem Sd.Yh (h:Sd w0 we g bs Q w) (hc:Cm w0 w w1 g) (hq:Foot Q' w1 (fun k=>w.heap.size≤k)):Sd w0 we g bs (fun W=>Q W∧Q' W) w1:=by
 have h1:=h.draw hc;exact⟨h1.st.and (hq.mono (fun k hk=>⟨fun hl=>by have:=h.kb.1;omega,fun b hm e=>by have:=kT (h.st.bx b hm).2.2;omega⟩)),h1.cu,h1.kb,h1.hg,h1.hw,h1.hb⟩
theorem Sd.box (h:Sd w0 we g bs Q w) (hg:gb=w.heap.size) (hbox:w1.heap[gb]? = some (.cells cs 30 (0,0))) (hb:Below w.heap.size w w1) (hs:cs.size=4):Sd w0 we g ((gb,cs)::bs) Q w1:=
 ⟨h.st.box hg hbox hb hs,(h.below hb).cu,(h.below hb).kb,h.hg,h.hw,fun b hm=>by
  rcases List.mem_cons.1 hm with rfl|hm
  ·have:=h.kb.1;simp only;omega
  ·exact h.hb b hm⟩
theorem Sd.set (h:Sd w0 we g bs Q w) (i:Nat) (hi:bs[i]? = some (gb,cs)) (hs:cs'.size=4):Sd w0 we g (bs.set i (gb,cs')) Q (w.setRow gb cs'):=by
 have hm:(gb,cs) ∈ bs:=List.mem_of_getElem? hi;have hge:=h.hb _ hm;have ho:∀k,k≠gb→(w.setRow gb cs').heap[k]? = w.heap[k]?:=fun k hk=>by simp only[World.setRow,Array.getElem?_modify];rw[if_neg (fun e=>hk e.symm)]
 refine⟨h.st.set i hi hs,h.cu.keep (ho g (by have:=h.hg;simp only at hge;omega)),⟨by have:=h.kb.1;simp[World.setRow];omega,fun k hk h1 h2=>(ho k (by simp only at hge;omega)).trans (h.kb.2 k hk h1 h2)⟩,h.hg,h.hw,fun b hb=>?_⟩
 rcases List.mem_or_eq_of_mem_set hb with hb|rfl
 ·exact h.hb b hb
 ·exact hge
end
section
variable {ops:Array Oper} {rest:List Oper} {o:Oper} {a:Act} {K:Exit→Act→World→Prop} {w0 we w:World} {bs:List (Nat × Array Value)} {Q:World→Prop} {g gb:Nat} {cs cs':Array Value} {d:Dk}
theorem Ui (hb:w.heap[gb]? = some (.cells cs 30 (0,0))) (h4:cs.size=4) {w':World} (hd:eT cs' d w') {p:Tmp} {x:Operand} (ho:o.op = .store 30 (.tmp p) x) (he:a.eval (.tmp p) = .pointer (some ⟨gb,0,none⟩)) (hx:a.eval x = .agg cs'):(execOp a.eval o).run Try.prog w = .ok .skip (w.setRow gb cs'):=by
 unfold execOp;simp[ho,he,hx,acI hb h4 hd.size hd.one]
theorem ao2 (hb:w.heap[gb]? = some (.cells cs 30 (0,0))) (h4:cs.size=4) {p:Tmp} (ho:o.op = .load 30 (.tmp p)) (he:a.eval (.tmp p) = .pointer (some ⟨gb,0,none⟩)):(execOp a.eval o).run Try.prog w = .ok (.value (.agg cs)) w:=by
 unfold execOp;simp only[ho,he,Instr.loadAt,Instr.sureAddr,Sem.run_bind,Sem.run_pure,Result.andThen_ok,run_loadVar_row w gb 30 30 cs (0,0) _ hb Try.underlying30 rfl (by rw[Try.rA];exact congrArg some h4.symm)]
theorem zO (i:Nat) (HS:Sd w0 we g bs Q w) (hd:eT cs' d w) {p:Tmp} {x:Operand}
 (h:∀w1,Sd w0 we g (bs.set i (gb,cs')) Q w1→wpList Try.prog ops K rest a w1)
 (hi:bs[i]? = some (gb,cs):=by rfl) (ho:o.op = .store 30 (.tmp p) x:=by rfl) (he:a.eval (.tmp p) = .pointer (some ⟨gb,0,none⟩):=by rfl) (hx:a.eval x = .agg cs':=by rfl) (hN:o.dst=none:=by rfl) (hg:o.guard=none:=by rfl):wpList Try.prog ops K (o::rest) a w:=by
 have hb:=HS.st.bx _ (List.mem_of_getElem? hi);refine wpList_plain hg fun K' hK=>?_
 unfold Oper.wp;rw[Ui hb.2.2 hb.2.1 hd ho he hx];show K' (a.put o.dst undef) _;rw[hN];exact hK _ _ (h _ (HS.set i hi hd.size))
theorem gN {R:Ending→World→Prop} {n:Tmp} {f:FuncId} {fn:Func} {ax:Array Operand} {ts:Array TypeId} (hf:Try.prog.funcs[f]? = some fn) {args:Array Value} (hc:Calls Try.prog f args w R)
 (hR:∀e w',R e w'→∃v,e = .returned v∧wpList Try.prog ops K rest (a.put (some n) v) w')
 (hop:o.op = .call { callee:=.value (.func f),args:=ax,argTypes:=ts }:=by rfl) (hd:o.dst=some n:=by rfl) (hg:o.guard=none:=by rfl) (hname:(fn.name == "runtime.NumGoroutine")=false:=by kernel_rfl) (hb:fn.body.isSome=true:=by rfl)
 (hargs:ax.map a.eval=args:=by (try simp only[List.map_toArray,List.map_cons,List.map_nil]);first|done|rfl):wpList Try.prog ops K (o::rest) a w:=
 AU (some n) hd hg hf hname hb args hop hargs (hc.mono (fun e w' h=>hR e w' h))
end
section
variable {ops:Array Oper} {rest:List Oper} {o:Oper} {a:Act} {K:Exit→Act→World→Prop} {w:World}
end
section
variable {md:Region.Mode} {ops:Array Oper} {Q:Exit→Act→World→Prop} {S:World→Prop} {ds:List Nat} {oi:Oper} {v:Value} {fuel:Nat} {l:Array Bool} {a a':Act} {w:World}
theorem rP (i:Nat) {n:Tmp} (l':Array Bool) (h:de Try.prog md ops Q S ds fuel l' a' w) (hi:ops[i]? = some oi:=by exact rfl) (hN:oi.dst=some n:=by exact rfl) (hk:Fo md ops l l' i=true:=by kernel_rfl) (hQ:∀c a w,Q (.panic c) (a.put oi.dst v) w→Q (.panic c) a w:=by exact fun _ _ _ h=>h)
 (hw:Region.wanted oi (yielded ops a.tmps)=true:=by rfl) (hv:∀w,(execOp a.eval oi).run Try.prog w = .ok (.value v) w:=by intro w';go_simp;with_reducible rfl) (ha:a.put (some n) v=a':=by simp only[Act.put,zA,zB,zC,ij,jC];rfl) :
 de Try.prog md ops Q S ds (fuel+1) l a w:=IC l' hi hN hk hQ (Or.inl ⟨hw,hv⟩) ha h
theorem rL (i:Nat) {n p:Tmp} {gb:Nat} {cs:Array Value} (l':Array Bool) (hS:S w) (hs:∀W,S W→W.heap[gb]? = some (.cells cs 30 (0,0))) (h4:cs.size=4) (h:de Try.prog md ops Q S ds fuel l' a' w) (hi:ops[i]? = some oi:=by exact rfl) (hN:oi.dst=some n:=by exact rfl) (ho:oi.op = .load 30 (.tmp p):=by rfl) (he:a.eval (.tmp p) = .pointer (some ⟨gb,0,none⟩):=by rfl) (hk:Ca md ops ds l l' i=true:=by kernel_rfl) (hQ:∀c a w,Q (.panic c) (a.put oi.dst (.agg cs)) w→Q (.panic c) a w:=by exact fun _ _ _ h=>h)
 (hw:Region.wanted oi (yielded ops a.tmps)=true:=by rfl) (ha:a.put (some n) (.agg cs)=a':=by simp only[Act.put,zA,zB,zC,ij,jC];rfl) :
 de Try.prog md ops Q S ds (fuel+1) l a w:=Cb l' hi hN hk hQ (Or.inl ⟨hw,fun W hW=>ao2 (hs W hW) h4 ho he⟩) hS ha h
theorem rC {R:Ending→World→Prop} (i:Nat) {n:Tmp} (l':Array Bool) {f:FuncId} {fn:Func} {ax:Array Operand} {ts:Array TypeId} (hf:Try.prog.funcs[f]? = some fn) {args:Array Value} (hc:Calls Try.prog f args w R)
 (hR:∀e w',R e w'→∃v,e = .returned v∧S w'∧(S w'→de Try.prog md ops Q S ds fuel l' (a.put (some n) v) w'))
 (hi:ops[i]? = some oi:=by exact rfl) (hN:oi.dst=some n:=by exact rfl) (hop:oi.op = .call { callee:=.value (.func f),args:=ax,argTypes:=ts }:=by rfl) (hk:vY md ops l l' i=true:=by kernel_rfl) (hd:i ∉ ds:=by decide)
 (hw:Region.wanted oi (yielded ops a.tmps)=true:=by rfl) (hname:(fn.name == "runtime.NumGoroutine")=false:=by kernel_rfl) (hb:fn.body.isSome=true:=by rfl) (hargs:ax.map a.eval=args:=by (try simp only[List.map_toArray,List.map_cons,List.map_nil]);first|done|rfl) :
 de Try.prog md ops Q S ds (fuel+1) l a w:=
 Bj l' hi hN hk hd (fun K hK=>dq hf hname hb args hw hN hop hargs (hc.mono (fun e w' h=>by
  obtain⟨v,he,hS,hn⟩:=hR e w' h;exact⟨v,he,hK _ _ hS hn⟩)))
theorem rS (i:Nat) {gb:Nat} {cs cs':Array Value} {d:Dk} {p:Tmp} {x:Operand} {w':World} (l':Array Bool) (hb:w.heap[gb]? = some (.cells cs 30 (0,0))) (h4:cs.size=4) (hd:eT cs' d w') (h:de Try.prog md ops Q S ds fuel l' a (w.setRow gb cs')) (hi:ops[i]? = some oi:=by exact rfl) (ho:oi.op = .store 30 (.tmp p) x:=by rfl) (he:a.eval (.tmp p) = .pointer (some ⟨gb,0,none⟩):=by rfl) (hx:a.eval x = .agg cs':=by rfl) (hN:oi.dst=none:=by exact rfl) (hk:vY md ops l l' i=true:=by kernel_rfl) (hd:i ∈ ds:=by decide)
 (hw:Region.wanted oi (yielded ops a.tmps)=true:=by rfl):de Try.prog md ops Q S ds (fuel+1) l a w:=
 xQ l' hi hN hk hd (fun K hK=>sn hw hN (Ui hb h4 ‹eT cs' d w'› ho he hx) (hK _ _ h))
theorem rN {a':Act} (h:de Try.prog md ops Q S ds fuel l a' w) (e:a=a':=by simp only[Act.put,zA,zB,zC,ij,jC];rfl):de Try.prog md ops Q S ds fuel l a w:=vV e h
end
section
variable {ops:Array Oper} {oi:Oper} {a:Act} {w:World} {K:Act→World→Prop} {Q:Exit→Act→World→Prop}
end
section
variable {w0 w:World} {g:Nat}
theorem FO (n:Int) (hC:ma w0 w g) (hB:Below w0.heap.size w0 w):Calls Try.prog 109 #[.pointer (some ⟨g,0,none⟩),.int .i64 n] w (fun e w'=>∃v,e = .returned (.int .i64 v)∧(0≤v∧(0<n→v<n)∧(n≤0→v=0))∧Cm w0 w w' g):=by
 obtain⟨b,i,h,hI,hl,hi⟩:=hC;obtain⟨v,j,y,e,h0,h1,h2,hj⟩:=Ma b i h n hl hi;exact(ot.calls g b i h n v j y w0 w hI hB e).mono (fun e w' ⟨he,hI',hB',hk⟩=>⟨v,he,⟨h0,h1,h2⟩,⟨b,j,y,hI',hl,hj⟩,hB',hk⟩)
theorem Ye (hC:ma w0 w g) (hB:Below w0.heap.size w0 w):Calls Try.prog 110 #[.pointer (some ⟨g,0,none⟩)] w (fun e w'=>∃v,e = .returned (.string v)∧v ∈ y4∧Cm w0 w w' g):=by
 obtain⟨b,i,h,hI,hl,hi⟩:=hC;obtain⟨v,j,y,e,hm,hj⟩:=Yg b i h hl hi;exact(uM.calls g b i h v j y w0 w hI hB e).mono (fun e w' ⟨he,hI',hB',hk⟩=>⟨v,he,hm,⟨b,j,y,hI',hl,hj⟩,hB',hk⟩)
theorem aie (hC:ma w0 w g) (hB:Below w0.heap.size w0 w):Calls Try.prog 78 #[.pointer (some ⟨g,0,none⟩)] w (fun e w'=>∃A c l,e = .returned (.slice A l.length c)∧(kr l∧l.length≤9)∧l.length≤c∧Foot (fun W=>Kd.C (Kd.int .u8) W A l.length l) w' (fun k=>w.heap.size≤k)∧Cm w0 w w' g):=by
 obtain⟨b,i,h,hI,hl,hi⟩:=hC;obtain⟨⟨l,j,y⟩,hr,K,hk⟩:=aoq b i h hl hi;refine(BW.calls K g b i h l j y w0 w hI hB (hk K (Nat.le_refl _))).mono (fun e w' ⟨v,he,h0,hI',hB',hk⟩=>?_);have g:=Kd.jS h0;obtain⟨A,c,rfl,hc,_⟩:=Kd.qb g;exact⟨A,c,l,he,⟨hr.1,hr.2.1⟩,hc,Kd.tD (Kd.CR g) (fun k hk=>hk.2.1),⟨b,j,y,hI',hl,hr.2.2⟩,hB',hk⟩
theorem ao8:Calls Try.prog 108 #[] w (fun e w'=>∃cs,e = .returned (.agg cs)∧Rf w w' cs ⟨[],[],[],1⟩):=by
 refine(MC.calls _ _ _ _ w rfl).mono (fun e w' ⟨v0,v1,v2,he,h0,h1,h2,hb⟩=>⟨_,he,?_⟩);exact Fr.rf (QF h0 h1 h2) hb
theorem St.draw {X:Nat→Prop} {bs:List (Nat × Array Value)} {Q Q':World→Prop} {w1:World} (h:St w0 X bs Q w) (hC:ma w0 w g) (hc:Cm w0 w w1 g) (hq:Foot Q' w1 (fun k=>w.heap.size≤k)):St w0 (fun k=>k<w.heap.size) bs Q' w1:=by
 have hne:∀b ∈ bs,b.1≠g:=fun b hm e=>by
  obtain⟨l,i,x,⟨A,c,h1,_⟩,_⟩:=hC;have h2:=(h.bx b hm).2.2;rw[e,h1]at h2;injection h2 with h2
  injection h2 with _ h2
  exact absurd h2 (by decide)
 refine⟨hc.2.1,hq.mono (fun k hk=>⟨Nat.not_lt.2 hk,fun b hm e=>?_⟩),fun b hm=>⟨(h.bx b hm).1,(h.bx b hm).2.1,?_⟩,h.nd⟩
 ·have:=kT (h.bx b hm).2.2;omega
 ·rw[hc.2.2.2 _ (kT (h.bx b hm).2.2) (hne b hm) (by simp)];exact(h.bx b hm).2.2
theorem Yf {A:Option Addr} {c:Nat} {l:List Int} (hB:Below w0.heap.size w0 w) (hr:Kd.C (Kd.int .u8) w0 A l.length l) (hc:l.length≤c) (hl:l.length≤1048576):Calls Try.prog 75 #[.slice A l.length c] w (fun e w'=>∃g,e = .returned (.pointer (some ⟨g,0,none⟩))∧ma w0 w' g∧Below w.heap.size w w'):=by
 obtain⟨⟨b,i,x⟩,vQ,K,hk⟩:=aop l hl;dsimp only at vQ;obtain⟨rfl,rfl⟩:=vQ;exact(kL.calls K A c b b 0 x w0 w hB hr hc (hk K (Nat.le_refl _))).mono (fun e w' ⟨g,he,hI,_,hb⟩=>⟨g,he,⟨b,0,x,hI,hl,⟨Int.le_refl _,by omega⟩⟩,hb⟩)
theorem aid {A:Option Addr} {c:Nat} {l:List Int} (n:Int) (hr:Kd.C (Kd.int .u8) w A l.length l) (hc:l.length≤c) (hl:l.length≤1048576):Calls Try.prog 77 #[.slice A l.length c,.int .i64 n] w (fun e w'=>∃v,e = .returned (.int .i64 v)∧(3≤n→3≤v∧v≤n)∧Below w.heap.size w w'):=by
 obtain⟨v,e,h⟩:=apj l hl n;exact(BV.calls A c l n v w hr hc e).mono (fun e w' ⟨he,m,hd⟩=>⟨v,he,h,by subst hd;exact gy (Below.refl _ _) m⟩)
end
end Go.Proofs.Ytgpkdbnikcghgaa.MD
