/- The reference's SyncDir, Remove and Rename, walked by hand. -/
import Derived.Test.YtgpkdbnikcghgaaMUD
import Derived.Test.YtgpkdbnikcghgaaMDx8
import Derived.Test.YtgpkdbnikcghgaaMDx20
import Derived.Test.YtgpkdbnikcghgaaMDx21
import Derived.Test.YtgpkdbnikcghgaaMDx22
namespace Go.Proofs.Ytgpkdbnikcghgaa.MD
open Go.RowKit Go.Proofs.YtgpkdbnikcghgaaW.PrintWords Go.Proofs.YtgpkdbnikcghgaaW.PrintLast Go.Proofs.YtgpkdbnikcghgaaW.PrintMore Go.Proofs.Ytgpkdbnikcghgaa.MWords Go.Proofs.Ytgpkdbnikcghgaa.MPD
set_option linter.unusedVariables false
set_option linter.unusedSimpArgs false
theorem St.start (w:World) (X:Nat→Prop):St w X [] (fun _=>True) w:=⟨Below.refl _ _,fun _ _=>trivial,fun b hb=>absurd hb (by simp),List.Pairwise.nil⟩
theorem S6 {cs:Array Value} {d:Dk} {w w1:World} (h:eT cs d w) (hb:Below w.heap.size w w1):eT cs d w1:=Iw.K_below hb h
section
variable {w0 w w1:World} {X:Nat→Prop} {bs:List (Nat × Array Value)} {Q:World→Prop} {g:Nat} {cs:Array Value}
theorem St.MA (h:St w0 X bs Q w) (i j:Nat) (u:Value) (hi:bs[i]? = some (g,cs)):St w0 X (bs.set i (g,cs.setIfInBounds j u)) Q (w.setCell ⟨g,j,none⟩ u):=by
 have hb:=(h.bx _ (List.mem_of_getElem? hi)).2;have h1:=h.set i hi (cs':=cs.setIfInBounds j u) (by rw[Array.size_setIfInBounds];exact hb.1)
 rwa [←setCell_eq_setRow w g j cs _ (0,0) u hb.2]at h1
theorem St.kept (h:St w0 X bs Q w) {S:Nat→Prop} (hb:Below w0.heap.size w0 w1) (hk:Kept w w1 S) (hn:∀b ∈ bs,¬S b.1):St w0 X bs (fun _=>True) w1:=
 ⟨hb,fun _ _=>trivial,fun b hm=>⟨(h.bx b hm).1,(h.bx b hm).2.1,(hk.2 _ (kT (h.bx b hm).2.2) (hn b hm)).trans (h.bx b hm).2.2⟩,h.nd⟩
end
section
variable {ops:Array Oper} {rest:List Oper} {o:Oper} {a:Act} {K:Exit→Act→World→Prop} {w0 w:World} {X:Nat→Prop} {bs:List (Nat × Array Value)} {Q:World→Prop} {g:Nat} {cs:Array Value} {u:Value} {t:TypeId} {p:Tmp} {x:Operand}
theorem M1 (i j:Nat) (HS:St w0 X bs Q w) (h:wpList Try.prog ops K rest (a.put o.dst u) w) (hi:bs[i]? = some (g,cs):=by rfl) (ho:o.op = .load t (.tmp p):=by rfl) (he:a.eval (.tmp p) = .pointer (some ⟨g,j,none⟩):=by rfl) (hu:cs[j]? = some u:=by rfl) (hg:o.guard=none:=by rfl)
 (hrun:∀W:World,W.cell? ⟨g,j,none⟩=some u→(execOp a.eval o).run Try.prog W = .ok (.value u) W:=by intro W hc;first|(go_simp;done)|(go_simp;rfl)):wpList Try.prog ops K (o::rest) a w:=
 Kd.QB hg (hrun w ((cell_of_row w g j cs _ _ (HS.bx _ (List.mem_of_getElem? hi)).2.2).trans hu)) h
theorem uFd (i j:Nat) (HS:St w0 X bs Q w) (h:∀w1,St w0 X (bs.set i (g,cs.setIfInBounds j u)) Q w1→wpList Try.prog ops K rest a w1) (hi:bs[i]? = some (g,cs):=by rfl) (ho:o.op = .store t (.tmp p) x:=by rfl) (he:a.eval (.tmp p) = .pointer (some ⟨g,j,none⟩):=by rfl) (hx:a.eval x=u:=by rfl) (hj:j<4:=by decide) (hN:o.dst=none:=by rfl) (hg:o.guard=none:=by rfl)
 (hrun:∀(W:World) (y:Value),W.cell? ⟨g,j,none⟩=some y→W.frozen? ⟨g,j,none⟩=false→(execOp a.eval o).run Try.prog W = .ok .skip (W.setCell ⟨g,j,none⟩ u):=by intro W y hc hf;first|(go_simp;done)|(go_simp;rfl)):wpList Try.prog ops K (o::rest) a w:=by
 have hb:=(HS.bx _ (List.mem_of_getElem? hi)).2;have hjs:j<cs.size:=by rw[hb.1];exact hj
 exact BY hg ho hN (hrun w cs[j] ((cell_of_row w g j cs _ _ hb.2).trans (by simp[hjs])) (fO hb.2 j)) (fun w' e=>h w' (e▸HS.MA i j u hi))
end
def tO (b:Nat) (v0 v1 v2:Value) (d:Dk) (W:World):Prop:=Kd.S bu 80 W b (fun k=>b≤k) v0 d.f0∧Kd.R ay 63 W b (fun k=>b≤k∧some k≠v2.ownBlock) v1 d.f1∧Kd.R ay 63 W b (fun k=>b≤k∧some k≠v1.ownBlock) v2 d.f2
theorem KH {α:Type} {d:Kd α} {e:Nat} {w:World} {base:Nat} {ok:Nat→Prop} {v:Value} {xs:List α} (h:d.R e w base ok v xs):Foot (fun W=>d.R e W base ok v xs) w ok:=fun W hW=>Kd.vz h hW
theorem ajf {α:Type} {d:Kd α} {e:Nat} {w:World} {base:Nat} {ok:Nat→Prop} {v:Value} {xs:List α} (h:Kd.S d e w base ok v xs):Foot (fun W=>Kd.S d e W base ok v xs) w ok:=fun W hW=>Kd.JO h hW
section
variable {w:World} {cs:Array Value} {d:Dk} {nm nq:ByteArray}
theorem ao4 (hd:eT cs d w) (hs:Small d.f0 d.f1 d.f2):Calls Try.prog 46 #[.agg cs] w (fun e w'=>∃v0 v1 v2,e = .returned (.agg #[v0,v1,v2,.int .i64 d.f3])∧Foot (tO w.heap.size v0 v1 v2 d) w' (fun k=>w.heap.size≤k)∧Below w.heap.size w w'):=by
 obtain⟨K,hk⟩:=hs.Da d.f3;obtain⟨A0,c0,A1,c1,A2,c2,rfl,l0,g0,l1,g1,l2,g2⟩:=hd.open;refine(dj.calls K _ _ _ _ _ _ _ _ _ _ _ _ _ _ w g0 l0 g1 l1 g2 l2 (hk K (Nat.le_refl _))).mono (fun e w' ⟨v0,v1,v2,he,h0,h1,h2,hb⟩=>⟨v0,v1,v2,he,fun W hW=>⟨?_,?_,?_⟩,hb⟩)
 ·exact ajf (Kd.gI (Kd.oK h0) (fun k hk=>hk.2.1)) W hW
 ·exact KH (Kd.aD (Kd.jS h1) (fun k hk=>⟨hk.2.1,hk.1⟩)) W (fun k hk=>hW k hk.1)
 ·exact KH (Kd.aD (Kd.jS h2) (fun k hk=>⟨hk.2.1,hk.1⟩)) W (fun k hk=>hW k hk.1)
theorem acJ (hd:eT cs d w) (hs:Small d.f0 d.f1 d.f2) (hn:nm.size≤9223372036854775807):Calls Try.prog 47 #[.agg cs,.string nm] w (fun e w'=>e = .returned (.int .i64 (gf (b8 d.f0 d.f1 d.f2 d.f3) d.f1 nm))∧Below w.heap.size w w'):=by
 obtain⟨K,hk⟩:=Mc d.f0 d.f1 d.f2 d.f3 nm hn hs;obtain⟨A0,c0,A1,c1,A2,c2,rfl,l0,g0,l1,g1,l2,g2⟩:=hd.open;exact ik.calls K _ _ _ _ _ _ _ _ _ _ _ _ w g0 l0 g1 l1 g2 l2 (hk K (Nat.le_refl _))
end
def DJ (w0 w:World) (k:Nat):Prop:=w.heap.size≤k∨(w0.heap.size≤k∧∃q cells,q≠30∧w.heap[k]? = some (.cells cells q (0,0)))
theorem acL {w0 w:World} {c0:Array Value} {d0 d1:Dk} {v0 v1 v2:Value} {p0 p1 p2:Nat→Prop} (hB:Below w0.heap.size w0 w) (h0:eT c0 d0 w0) (g0:Kd.S bu 80 w w0.heap.size p0 v0 d1.f0) (g1:Kd.R ay 63 w w0.heap.size p1 v1 d1.f1) (g2:Kd.R ay 63 w w0.heap.size p2 v2 d1.f2)
 (hne:∀k,v1.ownBlock=some k→v2.ownBlock≠some k) (s0:Small d0.f0 d0.f1 d0.f2) (s1:Small d1.f0 d1.f1 d1.f2):Calls Try.prog 52 #[.agg c0,.agg #[v0,v1,v2,.int .i64 d1.f3]] w (fun e w'=>∃cs',e = .returned (.tuple #[.agg cs',.int .i64 (mN d0.f0 d0.f1 d0.f2 d0.f3 d1.f0 d1.f1 d1.f2 d1.f3).2.2.2.2])∧Fr w0.heap.size (DJ w0 w) cs' (hU (mN d0.f0 d0.f1 d0.f2 d0.f3 d1.f0 d1.f1 d1.f2 d1.f3)) w'∧Below w0.heap.size w0 w'∧Kept w w' (fun k=>∃cells,w.heap[k]? = some (.cells cells 63 (0,0)))):=by
 obtain⟨K,hk⟩:=MB d0.f0 d0.f1 d0.f2 d0.f3 d1.f0 d1.f1 d1.f2 d1.f3 s0 s1;have hD:=h0.open;obtain⟨A0,c0',A1,c1',A2,c2',rfl,l0,e0,l1,e1,l2,e2⟩:=hD;have t1:=Kd.fC g1;have t2:=Kd.fC g2;have b0:=Kd.oK (Kd.lr (Kd.lr g0 t1 (by decide)) t2 (by decide));obtain⟨A3,c3,rfl⟩:=Kd.pC g0;have r3:=Kd.tQ g0
 have st:∀(W':World),Kept w W' (fun k=>some k=v1.ownBlock∨some k=v2.ownBlock)→∀k,k<w0.heap.size→W'.heap[k]? = w0.heap[k]?:=fun W' hk k hl=>by
  refine(hk.2 k (Nat.lt_of_lt_of_le hl hB.size) ?_).trans (hB.block k hl);rintro(hc|hc)
  ·have:=Kd.dB g1 k hc.symm;omega
  ·have:=Kd.dB g2 k hc.symm;omega
 refine(j6.calls K A0 c0' d0.f0 A1 c1' d0.f1 A2 c2' d0.f2 d0.f3 (fun k=>w0.heap.size≤k∧∃q cells,q≠30∧w.heap[k]? = some (.cells cells q (0,0))) A3 c3 d1.f0 (fun k=>some k=v1.ownBlock) v1 d1.f1 (fun k=>some k=v2.ownBlock) v2 d1.f2 d1.f3 _ _ _ _ _ w0 w hB (fun W' hk=>L7.C (st W' hk) e0) l0 (fun W' hk=>zm.C (st W' hk) e1) l1 (fun W' hk=>zm.C (st W' hk) e2) l2 ⟨A3,c3,rfl,r3.2.1,?_⟩ (Kd.mI rfl g1) (fun k h1 h2=>hne k h1.symm h2.symm) (Kd.mI rfl g2) (fun k h1 h2=>hne k h2.symm h1.symm) (hk K (Nat.le_refl _))).mono (fun e w' ⟨u0,u1,u2,he,q0,q1,q2,hb,hkp⟩=>⟨_,he,?_,hb,?_⟩)
 ·refine Kd.tD (Kd.CR (Kd.sT b0)) (fun k hk=>⟨⟨hk.2.1,by obtain⟨q,hq,cells,hc⟩:=hk.2.2.2;exact⟨q,cells,fun e=>absurd (e▸hq) (by decide),hc⟩⟩,hk.1.1.2,hk.1.2⟩)
 ·have hw:w0.heap.size≤w.heap.size:=hB.size;have o1:∀k,some k=v1.ownBlock→DJ w0 w k:=fun k h=>Or.inr ⟨Kd.dB g1 k h.symm,by obtain⟨cells,hc⟩:=t1 k h.symm;exact⟨_,cells,by decide,hc⟩⟩
  have o2:∀k,some k=v2.ownBlock→DJ w0 w k:=fun k h=>Or.inr ⟨Kd.dB g2 k h.symm,by obtain⟨cells,hc⟩:=t2 k h.symm;exact⟨_,cells,by decide,hc⟩⟩
  have o3:∀k,((some k=v1.ownBlock∨some k=v2.ownBlock)∨w.heap.size≤k)→DJ w0 w k:=fun k h=>h.elim (fun h=>h.elim (o1 k) (o2 k)) Or.inl
  refine⟨u0,u1,u2,rfl,Kd.nr (Kd.bM q0 (fun k hk=>⟨?_,hk.2⟩)) hw,Kd.aD q1 (fun k hk=>⟨o3 k hk.1,hk.2⟩),Kd.aD q2 (fun k hk=>⟨o3 k hk.1,hk.2⟩)⟩
  rcases hk.1 with (h|h|h)|h
  ·exact o1 k h
  ·exact o2 k h
  ·exact Or.inr h
  ·exact Or.inl h
 ·exact hkp.mono (fun k hk=>hk.elim (fun h=>t1 k h.symm) (fun h=>t2 k h.symm))
theorem tO.lower {b b':Nat} {v0 v1 v2:Value} {d:Dk} {W:World} (h:tO b v0 v1 v2 d W) (hb:b'≤b):tO b' v0 v1 v2 d W:=
 ⟨Kd.yN (Kd.gI h.1 (fun k hk=>Nat.le_trans hb hk)) hb,Kd.cR (Kd.aD h.2.1 (fun k hk=>⟨Nat.le_trans hb hk.1,hk.2⟩)) hb,Kd.cR (Kd.aD h.2.2 (fun k hk=>⟨Nat.le_trans hb hk.1,hk.2⟩)) hb⟩
theorem tO.jN {b:Nat} {v0 v1 v2:Value} {d:Dk} {W:World} (h:tO b v0 v1 v2 d W):eT #[v0,v1,v2,.int .i64 d.f3] d W:=by
 obtain⟨A1,c1,rfl,l1,g1⟩:=Kd.qb h.2.1;obtain⟨A2,c2,rfl,l2,g2⟩:=Kd.qb h.2.2;obtain⟨A0,c0,rfl⟩:=Kd.pC h.1;have r:=Kd.tQ h.1;exact L6 W d r.2.1 r.2.2 l1 g1 l2 g2
theorem tO.fr {b:Nat} {v0 v1 v2:Value} {d:Dk} {W:World} (h:tO b v0 v1 v2 d W):Fd b #[v0,v1,v2,.int .i64 d.f3] d W:=QF h.1 h.2.1 h.2.2 (fun _ h=>h.2) (fun _ h=>h.2)
theorem tO.open {b:Nat} {v0 v1 v2:Value} {d:Dk} {W:World} (h:tO b v0 v1 v2 d W):∃A0 c0 A1 c1 A2 c2,v0 = .slice A0 d.f0.length c0∧v1 = .slice A1 d.f1.length c1∧v2 = .slice A2 d.f2.length c2:=by
 obtain⟨A1,c1,rfl,l1,g1⟩:=Kd.qb h.2.1;obtain⟨A2,c2,rfl,l2,g2⟩:=Kd.qb h.2.2;obtain⟨A0,c0,rfl⟩:=Kd.pC h.1;exact⟨A0,c0,A1,c1,A2,c2,rfl,rfl,rfl⟩
theorem acK {w0 w:World} {cs:Array Value} {d:Dk} (kH:Below w0.heap.size w0 w) (hd:eT cs d w0) (hs:Small d.f0 d.f1 d.f2):Calls Try.prog 46 #[.agg cs] w (fun e w'=>∃A0 c0 A1 c1 A2 c2,e = .returned (.agg #[.slice A0 d.f0.length c0,.slice A1 d.f1.length c1,.slice A2 d.f2.length c2,.int .i64 d.f3])∧Foot (tO w0.heap.size (.slice A0 d.f0.length c0) (.slice A1 d.f1.length c1) (.slice A2 d.f2.length c2) d) w' (fun k=>w.heap.size≤k)∧Below w.heap.size w w'):=
 (ao4 (S6 hd kH) hs).mono (fun e w' ⟨v0,v1,v2,he,hF,hb⟩=>by
  obtain⟨A0,c0,A1,c1,A2,c2,rfl,rfl,rfl⟩:=hF.now.open;exact⟨A0,c0,A1,c1,A2,c2,he,hF.imp (fun W h=>h.lower kH.size),hb⟩)
theorem aoz {w0 w:World} {X:Nat→Prop} {bs:List (Nat × Array Value)} {Q:World→Prop} (h:St w0 X bs Q w):∀b ∈ bs,¬ ∃cells,w.heap[b.1]? = some (.cells cells 63 (0,0)):=fun b hm ⟨cells,hc⟩=>by
 rw[(h.bx b hm).2.2]at hc;injection hc with hc
 injection hc with _ hc
 exact absurd hc (by decide)
abbrev Xo (w:World) (k:Nat):Prop:=k<w.heap.size
theorem xO {w0 w:World} (h:Below w0.heap.size w0 w):∀k,w.heap.size≤k→¬Xo w0 k:=fun k hk hl=>by have:=h.size;unfold Xo at hl;omega
theorem St.ends {w0 w w1:World} {bs:List (Nat × Array Value)} {Q Q':World→Prop} (h:St w0 (Xo w0) bs Q w) (hb:Below w0.heap.size w0 w1) (hk:Kept w w1 (fun k=>∃cells,w.heap[k]? = some (.cells cells 63 (0,0)))) (hq:Foot Q' w1 (DJ w0 w)):St w0 (Xo w0) bs Q' w1:=by
 refine((h.kept hb hk (aoz h)).and (hq.mono (fun k ho=>?_))).imp (fun _ h=>h.2)
 rcases ho with ho|⟨ho,q,cells,hq,hc⟩
 ·exact⟨xO h.be k ho,fun b hm e=>by have:=kT (h.bx b hm).2.2;omega⟩
 ·refine⟨Nat.not_lt.2 ho,fun b hm e=>?_⟩;have h2:=(h.bx b hm).2.2;rw[e,hc]at h2;injection h2 with h2
  injection h2 with _ h2
  exact hq h2
theorem St.Yj {w0 w w1:World} {bs:List (Nat × Array Value)} {Q:World→Prop} {cs:Array Value} {d:Dk} (h:St w0 (Xo w0) bs Q w) (hb:Below w0.heap.size w0 w1) (hk:Kept w w1 (fun k=>∃cells,w.heap[k]? = some (.cells cells 63 (0,0)))) (hq:Fr w0.heap.size (DJ w0 w) cs d w1):St w0 (Xo w0) bs (Fd w0.heap.size cs d) w1:=
 (h.ends hb hk hq.F1).imp (fun _ g=>Fr.mono g (Nat.le_refl _) (fun _ hk=>hk.elim (fun h1=>Nat.le_trans h.be.size h1) (fun h=>h.1)))
theorem St.rf {w0 w:World} {bs:List (Nat × Array Value)} {cs:Array Value} {d:Dk} (h:St w0 (Xo w0) bs (Fd w0.heap.size cs d) w):Rf w0 w cs d:=⟨h.ft.mono (fun k hk=>Nat.not_lt.1 hk.1),h.be⟩
theorem acN {w0 w:World} {A:Option Addr} {c:Nat} {l:List ah} {nm:ByteArray} (kH:Below w0.heap.size w0 w) (hr:Kd.C ay w A l.length l) (hc:l.length≤c) (hl:l.length≤1048576):Calls Try.prog 51 #[.slice A l.length c,.string nm] w (fun e w'=>∃A' c',e = .returned (.slice A' (gG l nm).length c')∧Foot (fun W=>Kd.R ay 63 W w0.heap.size (fun k=>w.heap.size≤k) (.slice A' (gG l nm).length c') (gG l nm)) w' (fun k=>w.heap.size≤k)∧Below w.heap.size w w'):=by
 obtain⟨K,hk⟩:=apr l nm hl;refine(nc.calls K A c l nm _ w hr hc (hk K (Nat.le_refl _))).mono (fun e w' ⟨v0,he,h0,hb⟩=>?_);have g:=Kd.jS h0;obtain⟨A',c',rfl⟩:=Kd.bL g;exact⟨A',c',he,KH (Kd.cR (Kd.aD g (fun k hk=>hk.2.1)) kH.size),hb⟩
set_option maxHeartbeats 8000000 in
set_option maxRecDepth 100000 in
theorem ao9 {w:World} {cs:Array Value} {d:Dk} {nm:ByteArray} (hd:eT cs d w) (hs:Small d.f0 d.f1 d.f2) (hn:nm.size≤9223372036854775807):Calls Try.prog 28 #[.agg cs,.string nm] w (Pe w (sm d.f0 d.f1 d.f2 d.f3 nm)):=by
 have AY:=hd;obtain⟨a0,e0,a1,e1,a2,e2,rfl,_⟩:=hd.open;clear hd;have HS:=St.start w (Xo w);by_cases hzz:gf (b8 d.f0 d.f1 d.f2 d.f3) d.f1 nm=0
 case' pos=>rw[show sm d.f0 d.f1 d.f2 d.f3 nm=mN d.f0 d.f1 d.f2 d.f3 d.f0 (gG d.f1 nm) d.f2 d.f3 from if_pos hzz]
 case' neg=>rw[show sm d.f0 d.f1 d.f2 d.f3 nm=(d.f0,d.f1,d.f2,d.f3,gf (b8 d.f0 d.f1 d.f2 d.f3) d.f1 nm) from if_neg hzz]
 all_goals generalize hz:gf (b8 d.f0 d.f1 d.f2 d.f3) d.f1 nm=z at hzz ⊢;replace hz:=J hz
 case' pos=>have h0:(z != 0)=false:=by simpa using hzz
 case' neg=>have h0:(z != 0)=true:=by simpa using hzz
 all_goals
  clear hzz;go_enter Try.func28,Try.ntmps28;go_wp2_with (first|((with_reducible refine bh (N:=2) rfl ?_);refine bw 2 #[.slice a0 d.f0.length e0,.slice a1 d.f1.length e1,.slice a2 d.f2.length e2,.int .i64 d.f3] 30 ?_;intro g2 hg w1 hx hb;replace HS:=HS.box hg hx hb rfl;clear hb hx hg)|((with_reducible refine bh (N:=4) rfl ?_);refine bw 4 #[.slice none 0 0,.slice none 0 0,.slice none 0 0,.int .i64 0] 30 ?_;intro g4 hg w1 hx hb;replace HS:=HS.box hg hx hb rfl;clear hb hx hg)|((with_reducible refine bh (N:=6) rfl ?_);refine bw 6 #[.slice none 0 0,.slice none 0 0,.slice none 0 0,.int .i64 0] 30 ?_;intro g6 hg w1 hx hb;replace HS:=HS.box hg hx hb rfl;clear hb hx hg)|(first|refine nN 0 HS ?_|refine nN 1 HS ?_|refine nN 2 HS ?_|refine M1 0 1 HS ?_)|((with_reducible refine bm (f:=46) rfl ?_);refine gN Try.func46 (acK HS.be AY hs) ?_;rintro e w1 ⟨A0,c0,A1,c1,A2,c2,rfl,hF,hb⟩;refine⟨_,rfl,?_⟩;replace HS:=(HS.call hb hF (xO HS.be)).imp (fun _ h=>h.2);clear hF hb)|((with_reducible refine bm (f:=47) rfl ?_);refine gN Try.func47 (acJ (S6 AY HS.be) hs hn) ?_;rintro e w1 ⟨rfl,hb⟩;refine⟨_,rfl,?_⟩;replace HS:=HS.below hb;clear hb;rw[hz.1])|((with_reducible refine lW rfl ?_);(first|refine yb 0 HS HS.q.jN ?_|refine yb 1 HS HS.q.jN ?_);intro w1 HT;replace HS:=HT;clear HT;simp only[List.set]at HS)|((with_reducible refine bm (f:=51) rfl ?_);have G1:=Kd.cP HS.q.2.2;have uy:=Kd.bU HS.q.2.1;refine gN Try.func51 (acN HS.be uy.2.2 uy.2.1 hs.h1) ?_;rintro e w1 ⟨A3,c3,rfl,hF,hb⟩;have hne:Aside0 (∀k,(Value.slice A3 (gG d.f1 nm).length c3).ownBlock=some k→(Value.slice A2 d.f2.length c2).ownBlock≠some k):=⟨fun k h1 h2=>Nat.lt_irrefl _ (Nat.lt_of_lt_of_le (G1 k h2) (hF.now.1 k h1))⟩;refine⟨_,rfl,?_⟩;replace HS:=HS.call hb hF (xO HS.be);clear hF hb uy G1)|((with_reducible refine bm (f:=52) rfl ?_);refine gN Try.func52 (acL (d1:=⟨d.f0,gG d.f1 nm,d.f2,d.f3⟩) HS.be AY HS.q.1.1 HS.q.2 HS.q.1.2.2 hne.1 hs (hs.gG nm)) ?_;rintro e w1 ⟨c9,rfl,hF,hb,hk⟩;refine⟨_,rfl,?_⟩;replace HS:=HS.Yj hb hk hF;clear hF hb hk)|((with_reducible refine lW rfl ?_);refine uFd 0 1 HS ?_;intro w1 HT;replace HS:=HT;clear HT;simp only[List.set,zA,zB,zC]at HS)|((with_reducible refine lW rfl ?_);refine yb 1 HS HS.q.jN ?_;intro w1 HT;replace HS:=HT;clear HT;simp only[List.set]at HS))
 all_goals first|exact bodyPost_ret (lA rfl _ _ g4 30 c9 (0,0) _ rfl (HS.bx _ (.tail _ (.head _))).2.2 Try.underlying30 rfl (by rw[Try.rA,HS.q.size])) rfl ⟨c9,rfl,HS.rf⟩|exact bodyPost_ret (lA rfl _ _ g4 30 _ (0,0) _ rfl (HS.bx _ (.tail _ (.head _))).2.2 Try.underlying30 rfl (by rw[Try.rA];rfl)) rfl ⟨_,rfl,(HS.imp (fun _ h=>h.fr)).rf⟩
theorem ao7 {w:World} {nm:ByteArray} (hn:nm.size≤9223372036854775807):Calls Try.prog 48 #[.string nm] w (fun e w'=>e = .returned (.bool (ja nm))∧Below w.heap.size w w'):=by
 obtain⟨K,hk⟩:=Uk nm hn;exact(eW.calls K nm _ w (hk K (Nat.le_refl _))).mono (fun e w' ⟨he,m,hd⟩=>⟨he,by subst hd;exact gy (Below.refl _ _) m⟩)
theorem sAt {w:World} {A:Option Addr} {c:Nat} {l:List ah} {nm:ByteArray} (hr:Kd.C ay w A l.length l) (hc:l.length≤c) (hl:l.length≤1048576):Calls Try.prog 49 #[.slice A l.length c,.string nm] w (fun e w'=>e = .returned (.int .i64 (nameAt l nm))∧Below w.heap.size w w'):=by
 obtain⟨K,hk⟩:=Mb l nm hl;exact(jD.calls K A c l nm _ w hr hc (hk K (Nat.le_refl _))).mono (fun e w' ⟨he,m,hd⟩=>⟨he,by subst hd;exact gy (Below.refl _ _) m⟩)
theorem apd {w0 w:World} {A:Option Addr} {c:Nat} {l l':List ah} {nm:ByteArray} {n:Int} (kH:Below w0.heap.size w0 w) (hr:Kd.C ay w A l.length l) (hc:l.length≤c) (hl:l.length≤1048576) (hev:Ev (fun k=>dJ.f k l nm n) l'):Calls Try.prog 50 #[.slice A l.length c,.agg #[.string nm,.int .i64 n]] w (fun e w'=>∃A' c',e = .returned (.slice A' l'.length c')∧Foot (fun W=>Kd.R ay 63 W w0.heap.size (fun k=>w.heap.size≤k) (.slice A' l'.length c') l') w' (fun k=>w.heap.size≤k)∧Below w.heap.size w w'):=by
 obtain⟨K,hk⟩:=hev;refine(dJ.calls K A c l nm n _ w hr hc (hk K (Nat.le_refl _))).mono (fun e w' ⟨v0,he,h0,hb⟩=>?_);have g:=Kd.jS h0;obtain⟨A',c',rfl⟩:=Kd.bL g;exact⟨A',c',he,KH (Kd.cR (Kd.aD g (fun k hk=>hk.2.1)) kH.size),hb⟩
section
variable {md:Region.Mode} {ops:Array Oper} {Q:Exit→Act→World→Prop} {S:World→Prop} {ds:List Nat} {oi:Oper} {v:Value} {fuel:Nat} {l:Array Bool} {a a':Act} {w:World}
theorem rT (i:Nat) {n:Tmp} (l':Array Bool) (hS:S w) (h:de Try.prog md ops Q S ds fuel l' a' w) (hi:ops[i]? = some oi:=by exact rfl) (hN:oi.dst=some n:=by exact rfl) (hk:Ca md ops ds l l' i=true:=by kernel_rfl) (hQ:∀c a w,Q (.panic c) (a.put oi.dst v) w→Q (.panic c) a w:=by exact fun _ _ _ h=>h)
 (hw:Region.wanted oi (yielded ops a.tmps)=true:=by rfl) (hv:∀w,S w→(execOp a.eval oi).run Try.prog w = .ok (.value v) w:=by intro w' hs_;repeat (obtain⟨s_,hs_⟩:=hs_);go_simp;with_reducible rfl) (ha:a.put (some n) v=a':=by simp only[Act.put,zA,zB,zC,ij,jC];rfl) :
 de Try.prog md ops Q S ds (fuel+1) l a w:=Cb l' hi hN hk hQ (Or.inl ⟨hw,hv⟩) hS ha h
end
set_option maxHeartbeats 8000000 in
set_option maxRecDepth 100000 in
theorem acM {w:World} {cs:Array Value} {d:Dk} {nm nq:ByteArray} (hd:eT cs d w) (hs:Small d.f0 d.f1 d.f2) (hn:nm.size≤9223372036854775807) (hq:nq.size≤9223372036854775807):Calls Try.prog 13 #[.agg cs,.string nm,.string nq] w (Pe w (rz d.f0 d.f1 d.f2 d.f3 nm nq)):=by
 have AY:=hd;obtain⟨a0,e0,a1,e1,a2,e2,rfl,_⟩:=hd.open;clear hd;have HS:=St.start w (Xo w);unfold rz;generalize hz:gf (b8 d.f0 d.f1 d.f2 d.f3) d.f1 nm=z
 replace hz:=J hz;generalize hno:ja nq=b
 replace hno:=J hno;by_cases h1:z=1
 case' pos=>rw[if_pos (Or.inl h1)];have h1b:(z == 1)=true:=beq_iff_eq.2 h1;clear h1
 case' neg=>
  have h1b:(z == 1)=false:=beq_eq_false_iff_ne.2 h1;cases b
  case' false=>rw[if_pos (Or.inr rfl)];clear h1
  case' true=>
   rw[if_neg (fun h=>h.elim h1 (by simp))];by_cases h0:z=0
   case' neg=>rw[if_neg h0];have KO:(z != 0)=true:=bne_iff_ne.2 h0;clear h0 h1
   case' pos=>
    rw[if_pos h0];have KO:(z != 0)=false:=by simpa using h0
    replace h0:=J h0;clear h1;by_cases he:nm.toList=nq.toList
    case' pos=>rw[if_pos he];have heb:(nm.toList == nq.toList)=true:=beq_iff_eq.2 he;clear he
    case' neg=>rw[if_neg he];have heb:(nm.toList == nq.toList)=false:=beq_eq_false_iff_ne.2 he;clear he
 all_goals
  go_enter Try.func13,Try.ntmps13;go_wp2_with (first|((with_reducible refine bh (N:=3) rfl ?_);refine bw 3 #[.slice a0 d.f0.length e0,.slice a1 d.f1.length e1,.slice a2 d.f2.length e2,.int .i64 d.f3] 30 ?_;intro g3 hg w1 hx hb;replace HS:=HS.box hg hx hb rfl;clear hb hx hg)|((with_reducible refine bh (N:=6) rfl ?_);refine bw 6 #[.slice none 0 0,.slice none 0 0,.slice none 0 0,.int .i64 0] 30 ?_;intro g6 hg w1 hx hb;replace HS:=HS.box hg hx hb rfl;clear hb hx hg)|((with_reducible refine bh (N:=8) rfl ?_);refine bw 8 #[.slice none 0 0,.slice none 0 0,.slice none 0 0,.int .i64 0] 30 ?_;intro g8 hg w1 hx hb;replace HS:=HS.box hg hx hb rfl;clear hb hx hg)|(first|refine nN 0 HS ?_|refine nN 1 HS ?_|refine nN 2 HS ?_|refine M1 0 1 HS ?_)|((with_reducible refine bm (f:=46) rfl ?_);refine gN Try.func46 (acK HS.be AY hs) ?_;rintro e w1 ⟨A0,c0,A1,c1,A2,c2,rfl,hF,hb⟩;refine⟨_,rfl,?_⟩;replace HS:=(HS.call hb hF (xO HS.be)).imp (fun _ h=>h.2);clear hF hb)|((with_reducible refine bm (f:=47) rfl ?_);refine gN Try.func47 (acJ (S6 AY HS.be) hs hn) ?_;rintro e w1 ⟨rfl,hb⟩;refine⟨_,rfl,?_⟩;replace HS:=HS.below hb;clear hb;rw[hz.1])|((with_reducible refine bm (f:=48) rfl ?_);(try (refine F3 (by rfl) ?_;dsimp only));refine gN Try.func48 (ao7 hq) ?_;rintro e w1 ⟨rfl,hb⟩;refine⟨_,rfl,?_⟩;replace HS:=HS.below hb;clear hb;rw[hno.1])|((with_reducible refine lW rfl ?_);(first|refine yb 0 HS HS.q.jN ?_|refine yb 1 HS HS.q.jN ?_);intro w1 HT;replace HS:=HT;clear HT;simp only[List.set]at HS))
 any_goals exact bodyPost_ret (lA rfl _ _ g6 30 _ (0,0) _ rfl (HS.bx _ (.tail _ (.head _))).2.2 Try.underlying30 rfl (by rw[Try.rA];rfl)) rfl ⟨_,by first|rfl|(rw[h0.1];rfl),(HS.imp (fun _ h=>h.fr)).rf⟩
 obtain⟨hok,_,j,m,hj,hja,hid,_,_,_⟩:=X2 (hz.1.trans h0.1);have hwi:Ev (fun k=>dJ.f k (gG d.f1 nm) nq (jY d.f1 nm)) (renamed d.f1 nm nq):=aos (gG d.f1 nm) nq _ (Nat.le_trans (zQ d.f1 nm) hs.h1) (UW nm (Qr (y3 hok).2.1));have hrd:=Kd.bU HS.q.2.1;obtain⟨ad,rfl,SR,xF⟩:=gZ hrd.2.2 (j:Int) (by omega) (by omega);rw[←hid,Int.toNat_natCast]at xF;have q1:=eq_true (show (0:Int)≤(j:Int) by omega);have q2:=eq_true (show (j:Int)<(d.f1.length:Int) by omega);replace hid:=J hid;replace hja:=J hja;replace hok:=J hok;refine eu (n:=10) (S:=fun W=>W.cell? ⟨g8,1,none⟩=some (.slice (some ad) d.f1.length c1)∧W.cell? ⟨(ad.add (j*2)).block,(ad.add (j*2)).off+1,none⟩=some (.int .i64 (jY d.f1 nm))) (ds:=[]) (mb 0 10) (by kernel_rfl) rfl rfl ⟨mZ (HS.bx _ (.head _)).2.2 1,xF⟩ (fun hh=>?_);replace HS:=HS.drew;refine rP 0 (mb 1 9) ?_;refine rP 2 (mr [1,1,1,7]) ?_;refine rP 4 (mr [1,1,1,1,1,5]) ?_;refine rT 1 (mr [3,1,1,5]) hh ?_;refine rT 3 (mb 5 5) hh ?_;refine rC 5 (mb 6 4) Try.func49 (sAt (Kd.bU HS.q.2.1).2.2 (Kd.bU HS.q.2.1).2.1 hs.h1) ?_;rintro e w5 ⟨rfl,hb⟩;replace HS:=HS.below hb;rw[hja.1];refine⟨_,rfl,⟨mX hb hh.1,mX hb hh.2⟩,fun hh=>rN ?_⟩;clear hb;refine rP 6 (mb 7 3) ?_;refine rP 7 (mb 8 2) ?_;refine rT 8 (mb 9 1) hh ?_;refine rP 9 (mb 10 0) ?_;refine et (by kernel_rfl) ?_;clear hh SR xF;replace hok:=hok.1;go_wp2_with (first|(first|refine nN 0 HS ?_|refine nN 1 HS ?_|refine nN 2 HS ?_|refine M1 0 1 HS ?_)|((with_reducible refine bm (f:=51) rfl ?_);have uy:=Kd.bU HS.q.2.1;refine gN Try.func51 (acN HS.be uy.2.2 uy.2.1 hs.h1) ?_;rintro e w1 ⟨A3,c3,rfl,hF,hb⟩;refine⟨_,rfl,?_⟩;replace HS:=HS.call hb hF (xO HS.be);clear hF hb uy)|((with_reducible refine bm (f:=50) rfl ?_);have uy:=Kd.bU HS.q.2;have G1:=Kd.cP HS.q.1.2.2;refine gN Try.func50 (apd HS.be uy.2.2 uy.2.1 (Nat.le_trans (zQ d.f1 nm) hs.h1) hwi) ?_;rintro e w1 ⟨A4,c4,rfl,hF,hb⟩;have hne:Aside0 (∀k,(Value.slice A4 (renamed d.f1 nm nq).length c4).ownBlock=some k→(Value.slice A2 d.f2.length c2).ownBlock≠some k):=⟨fun k h1 h2=>Nat.lt_irrefl _ (Nat.lt_of_lt_of_le (G1 k h2) (hF.now.1 k h1))⟩;refine⟨_,rfl,?_⟩;replace HS:=(HS.call hb hF (xO HS.be)).imp (fun _ h=>And.intro h.1.1 h.2);clear hF hb uy G1)|((with_reducible refine bm (f:=52) rfl ?_);refine gN Try.func52 (acL (d1:=⟨d.f0,renamed d.f1 nm nq,d.f2,d.f3⟩) HS.be AY HS.q.1.1 HS.q.2 HS.q.1.2.2 hne.1 hs (acE hs hok hq)) ?_;rintro e w1 ⟨c9,rfl,hF,hb,hk⟩;refine⟨_,rfl,?_⟩;replace HS:=HS.Yj hb hk hF;clear hF hb hk)|((with_reducible refine lW rfl ?_);refine uFd 0 1 HS ?_;intro w1 HT;replace HS:=HT;clear HT;simp only[List.set,zA,zB,zC]at HS)|((with_reducible refine lW rfl ?_);refine yb 1 HS HS.q.jN ?_;intro w1 HT;replace HS:=HT;clear HT;simp only[List.set]at HS));exact bodyPost_ret (lA rfl _ _ g6 30 c9 (0,0) _ rfl (HS.bx _ (.tail _ (.head _))).2.2 Try.underlying30 rfl (by rw[Try.rA,HS.q.size])) rfl ⟨c9,rfl,HS.rf⟩
end Go.Proofs.Ytgpkdbnikcghgaa.MD
