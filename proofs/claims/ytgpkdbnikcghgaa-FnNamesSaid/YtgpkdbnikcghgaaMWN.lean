/- The walk of l2DrawAny: a drawn disk that is perhaps not quite right. -/
import Derived.Test.YtgpkdbnikcghgaaMWD
import Derived.Test.YtgpkdbnikcghgaaMPN
namespace Go.Proofs.Ytgpkdbnikcghgaa.MD
open Go.RowKit Go.Proofs.YtgpkdbnikcghgaaW.PrintWords Go.Proofs.YtgpkdbnikcghgaaW.PrintLast Go.Proofs.YtgpkdbnikcghgaaW.PrintMore Go.Proofs.Ytgpkdbnikcghgaa.MWords Go.Proofs.Ytgpkdbnikcghgaa.MPD
set_option linter.unusedVariables false
set_option linter.unusedSimpArgs false
theorem acb {W:World} {b0 b1 b2:Nat} {p0 p1 p2:Nat→Prop} {v0 v1 v2:Value} {l0:List aj} {l1 l2:List ah} {n:Int} (h0:Kd.N bu 80 W b0 p0 v0 l0) (h1:Kd.R ay 63 W b1 p1 v1 l1) (h2:Kd.R ay 63 W b2 p2 v2 l2):eT #[v0,v1,v2,.int .i64 n] ⟨l0,l1,l2,n⟩ W:=by
 obtain⟨A0,c0,rfl⟩:=Kd.lp h0;obtain⟨A1,c1,rfl,e1,g1⟩:=Kd.qb h1;obtain⟨A2,c2,rfl,e2,g2⟩:=Kd.qb h2;have e0:=Kd.kz h0;exact L6 W ⟨l0,l1,l2,n⟩ e0.2.1 e0.2.2 e1 g1 e2 g2
section
variable {w0 we w w1:World} {bs:List (Nat × Array Value)} {Q Q':World→Prop} {g gb:Nat} {cs:Array Value} {u:Value}
theorem Sd.MA (h:Sd w0 we g bs Q w) (i j:Nat) (u:Value) (hi:bs[i]? = some (gb,cs)):Sd w0 we g (bs.set i (gb,cs.setIfInBounds j u)) Q (w.setCell ⟨gb,j,none⟩ u):=by
 have hb:=(h.st.bx _ (List.mem_of_getElem? hi)).2;have h1:=h.set i hi (cs':=cs.setIfInBounds j u) (by rw[Array.size_setIfInBounds];exact hb.1)
 rwa [←setCell_eq_setRow w gb j cs _ (0,0) u hb.2]at h1
theorem Sd.grown (h:Sd w0 we g bs Q w) {row:Option Nat} (hg:w.grownBy w1 row) (hb:Below we.heap.size w w1) (hr:∀b ∈ bs,some b.1≠row) (hq:Foot Q' w1 (fun k=>¬k<we.heap.size∧∀b ∈ bs,b.1≠k)):Sd w0 we g bs Q' w1:=
 ⟨⟨Fp h.st.be h.hw hb,hq,fun b hm=>⟨(h.st.bx b hm).1,(h.st.bx b hm).2.1,(hg.block _ (kT (h.st.bx b hm).2.2) (hr b hm)).trans (h.st.bx b hm).2.2⟩,h.st.nd⟩,h.cu.keep (hb.block g h.hg),⟨Nat.le_trans h.kb.1 hg.size,fun i hi h1 h2=>(hb.block i hi).trans (h.kb.2 i hi h1 h2)⟩,h.hg,h.hw,h.hb⟩
end
section
variable {ops:Array Oper} {rest:List Oper} {o:Oper} {a:Act} {K:Exit→Act→World→Prop} {w0 we w:World} {bs:List (Nat × Array Value)} {Q:World→Prop} {g gb:Nat} {cs:Array Value} {u:Value} {t:TypeId} {p:Tmp} {x:Operand}
theorem uFe (i j:Nat) (HS:Sd w0 we g bs Q w) (h:∀w1,Sd w0 we g (bs.set i (gb,cs.setIfInBounds j u)) Q w1→wpList Try.prog ops K rest a w1) (hi:bs[i]? = some (gb,cs):=by rfl) (ho:o.op = .store t (.tmp p) x:=by rfl) (he:a.eval (.tmp p) = .pointer (some ⟨gb,j,none⟩):=by rfl) (hx:a.eval x=u:=by rfl) (hj:j<4:=by decide) (hN:o.dst=none:=by rfl) (hg:o.guard=none:=by rfl)
 (hrun:∀(W:World) (y:Value),W.cell? ⟨gb,j,none⟩=some y→W.frozen? ⟨gb,j,none⟩=false→(execOp a.eval o).run Try.prog W = .ok .skip (W.setCell ⟨gb,j,none⟩ u):=by intro W y hc hf;first|(go_simp;done)|(go_simp;rfl)):wpList Try.prog ops K (o::rest) a w:=by
 have hb:=(HS.st.bx _ (List.mem_of_getElem? hi)).2;have hjs:j<cs.size:=by rw[hb.1];exact hj
 exact BY hg ho hN (hrun w cs[j] ((cell_of_row w gb j cs _ _ hb.2).trans (by simp[hjs])) (fO hb.2 j)) (fun w' e=>h w' (e▸HS.MA i j u hi))
theorem acG {W:World} {base:Nat} {okp:Nat→Prop} (l:List Int):bB (Kd.M (Kd.int .i64) W base okp) 1 l (l.map (Value.int .i64)):=⟨by simp,fun j p hj=>by
 show _=[Value.int .i64 p];have hl:=(List.getElem?_eq_some_iff.1 hj).1;rw[Nat.mul_one];refine List.ext_getElem? (fun i=>?_)
 rcases i with _|i
 ·simp[hj]
 ·simp;omega⟩
abbrev Ri (w w1:World) (A:Option Addr) (c:Nat) (l:List Int):Prop:=Kd.R (Kd.int .i64) 3 w1 w.heap.size (fun _=>True) (.slice A l.length c) l
theorem apO (l:List Int) (h:∀A c w1,Ri w w1 A c l→Below w.heap.size w w1→wpList Try.prog ops K rest (a.put o.dst (.slice A l.length c)) w1) {n:Tmp} (hg:o.guard=none:=by rfl) (hd:o.dst=some n:=by rfl)
 (hr:(execOp a.eval o).run Try.prog w = .ok (.value (.slice (some ⟨w.heap.size,0,none⟩) l.length l.length)) (w.alloc (.cells (l.map (Value.int .i64)).toArray 3)):=by first|(go_simp;done)|(go_simp;rfl)) (hm:l.length≤9223372036854775807:=by simp):wpList Try.prog ops K (o::rest) a w:=
 Kd.qQ (Kd.int .i64) w.heap.size 3 hg hd (xs:=l) (ok:=fun _=>True) (okp:=fun _=>True) hr (acG l) (fun _ h=>h) trivial (Below.refl _ _) (Nat.le_refl _) hm (fun v1 w1 hR hb _ _=>by
  obtain⟨A,c,rfl⟩:=Kd.bL hR;exact h A c w1 hR hb)
end
section
variable {md:Region.Mode} {ops:Array Oper} {Q:Exit→Act→World→Prop} {S:World→Prop} {ds:List Nat} {oi:Oper} {fuel:Nat} {L:Array Bool} {a:Act} {w:World}
theorem rI (i:Nat) {n:Tmp} (l:List Int) (l':Array Bool)
 (h:∀A c w1,Ri w w1 A c l→Below w.heap.size w w1→S w1∧(S w1→de Try.prog md ops Q S ds fuel l' (a.put (some n) (.slice A l.length c)) w1))
 (hi:ops[i]? = some oi:=by exact rfl) (hN:oi.dst=some n:=by exact rfl) (hk:vY md ops L l' i=true:=by kernel_rfl) (hd:i ∉ ds:=by decide) (hw:Region.wanted oi (yielded ops a.tmps)=true:=by rfl)
 (hr:(execOp a.eval oi).run Try.prog w = .ok (.value (.slice (some ⟨w.heap.size,0,none⟩) l.length l.length)) (w.alloc (.cells (l.map (Value.int .i64)).toArray 3)):=by first|(go_simp;done)|(go_simp;rfl)) (hm:l.length≤9223372036854775807:=by simp):de Try.prog md ops Q S ds (fuel+1) L a w:=
 Bj l' hi hN hk hd (fun K hK=>by
  have:=Kd.sR (Q:=Q) (Kc:=K) (Kd.int .i64) w.heap.size 3 hw hN (xs:=l) (ok:=fun _=>True) (okp:=fun _=>True) hr (acG l) (fun _ h=>h) trivial (Below.refl _ _) (Nat.le_refl _) hm (fun v1 w1 hR hb _ _=>by
   obtain⟨A,c,rfl⟩:=Kd.bL hR;have:=h A c w1 hR hb;rw[hN];exact hK _ _ this.1 this.2)
  rwa [hN]at this)
theorem rD (i:Nat) {ad:Addr} {zw u:Value} {t:TypeId} {p:Tmp} {x:Operand} (l':Array Bool) (hc:w.cell? ad=some zw) (hf:w.frozen? ad=false) (h:de Try.prog md ops Q S ds fuel l' a (w.setCell ad u)) (hi:ops[i]? = some oi:=by exact rfl) (ho:oi.op = .store t (.tmp p) x:=by rfl) (he:a.eval (.tmp p) = .pointer (some ad):=by rfl) (hx:a.eval x=u:=by rfl) (hN:oi.dst=none:=by exact rfl) (hk:vY md ops L l' i=true:=by kernel_rfl) (hd:i ∈ ds:=by decide)
 (hw:Region.wanted oi (yielded ops a.tmps)=true:=by rfl) (hrun:∀(W:World) (y:Value),W.cell? ad=some y→W.frozen? ad=false→(execOp a.eval oi).run Try.prog W = .ok .skip (W.setCell ad u):=by intro W y hc hf;first|(go_simp;done)|(go_simp;rfl)):de Try.prog md ops Q S ds (fuel+1) L a w:=
 xQ l' hi hN hk hd (fun K hK=>sn hw hN (hrun w zw hc hf) (hK _ _ h))
end
section
variable {w0 w:World} {g:Nat}
theorem P5 (hC:ma w0 w g) (hB:Below w0.heap.size w0 w):Calls Try.prog 86 #[.pointer (some ⟨g,0,none⟩)] w (fun e w'=>∃v,e = .returned (.string v)∧v.size≤13∧Cm w0 w w' g):=by
 obtain⟨b,i,h,hI,hl,hi⟩:=hC;obtain⟨v,j,y,e,hm,hj⟩:=ahg b i h hl hi;exact(BX.calls g b i h v j y w0 w hI hB e).mono (fun e w' ⟨he,hI',hB',hk⟩=>⟨v,he,hm,⟨b,j,y,hI',hl,hj⟩,hB',hk⟩)
theorem Yd {we:World} {A:Option Addr} {c:Nat} {l:List Int} (hr:Ri we w A c l) (hg:g<we.heap.size) (hl:0<l.length) (hC:ma w0 w g) (hB:Below w0.heap.size w0 w):Calls Try.prog 113 #[.pointer (some ⟨g,0,none⟩),.slice A l.length c] w (fun e w'=>∃v,e = .returned (.int .i64 v)∧Cm w0 w w' g):=by
 obtain⟨b,i,h,hI,hb,hi⟩:=hC;obtain⟨v,j,y,e,hm,hj⟩:=acf b i h l hb hi hl;have hd:=Kd.bU hr;exact(uL.calls g b i h A c l v j y w0 w hI hB hd.2.2 hd.2.1 (KF (fun e=>by have:=Kd.dB hr g e.symm;omega)) e).mono (fun e w' ⟨he,hI',hB',hk⟩=>⟨v,he,⟨b,j,y,hI',hb,hj⟩,hB',hk⟩)
end
end Go.Proofs.Ytgpkdbnikcghgaa.MD
