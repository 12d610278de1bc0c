/- Walks and plain laws, put together: no condition of their own. -/
import Derived.Test.YtingkpnoiekliaaGreatG16
import Derived.Test.YtingkpnoiekliaaGreatG1
import Derived.Test.YtingkpnoiekliaaGreatG8
import Derived.Test.YtingkpnoiekliaaGreatVAll
section
namespace Go.Proofs.YtingkpnoiekliaaGreat.MZ
open Go.RowKit Go.Proofs.YtingkpnoiekliaaGreatW.PrintWords Go.Proofs.YtingkpnoiekliaaGreatW.PrintLast Go.Proofs.YtingkpnoiekliaaGreatW.PrintMore Go.Proofs.YtingkpnoiekliaaGreat.MWords Go.Proofs.YtingkpnoiekliaaGreat.MZ
set_option linter.unusedVariables false
set_option linter.unusedSimpArgs false
section
variable {w:World} {cs:Array Value} {d:Dk} {nm nq:ByteArray}
theorem CJ (hd:cO cs d w) (hs:Small d.f0 d.f1 d.f2) (hn:nm.size≤9223372036854775807):Calls Tryz.prog 30 #[.agg cs,.string nm] w (fun e w'=>e = .returned (.int .i64 (df (bR d.f0 d.f1 d.f2 d.f3) d.f1 nm))∧Below w.heap.size w w'):=by
 obtain⟨K,hk⟩:=Q2 d.f0 d.f1 d.f2 d.f3 nm hn hs;obtain⟨A0,c0,A1,c1,A2,c2,rfl,U,g0,l1,g1,l2,g2⟩:=hd.open;exact fX.calls K _ _ _ _ _ _ _ _ _ _ _ _ w g0 U g1 l1 g2 l2 (hk K (Nat.le_refl _))
theorem sOk (hd:cO cs d w) (hs:Small d.f0 d.f1 d.f2):Calls Tryz.prog 71 #[.agg cs] w fun e w'=>e = .returned (.bool (bR d.f0 d.f1 d.f2 d.f3))∧Below w.heap.size w w':=Sb hd hs
end
def KW (w0 w:World) (k:Nat):Prop:=w.heap.size≤k∨(w0.heap.size≤k∧∃q,q≠27∧∃cells:Array Value × (Nat × Nat),w.heap[k]? = some (.cells cells.1 q cells.2))
theorem o3.fr {b:Nat} {v0 v1 v2:Value} {d:Dk} {W:World} (h:o3 b v0 v1 v2 d W):Fd b #[v0,v1,v2,.int .i64 d.f3] d W:=V2 h.1 h.2.1 h.2.2 (fun _ h=>h.2) (fun _ h=>h.2)
theorem o3.open {b:Nat} {v0 v1 v2:Value} {d:Dk} {W:World} (h:o3 b v0 v1 v2 d W):∃A0 c0 A1 c1 A2 c2,v0 = .slice A0 d.f0.length c0∧v1 = .slice A1 d.f1.length c1∧v2 = .slice A2 d.f2.length c2:=by
 obtain⟨A1,c1,rfl,l1,g1⟩:=Kd.oY h.2.1;obtain⟨A2,c2,rfl,l2,g2⟩:=Kd.oY h.2.2;obtain⟨A0,c0,rfl⟩:=Kd.jv h.1;exact⟨A0,c0,A1,c1,A2,c2,rfl,rfl,rfl⟩
theorem Ll {w0 w:World} {cs:Array Value} {d:Dk} (fV:Below w0.heap.size w0 w) (hd:cO cs d w0) (hs:Small d.f0 d.f1 d.f2):Calls Tryz.prog 31 #[.agg cs] w (fun e w'=>∃A0 c0 A1 c1 A2 c2,e = .returned (.agg #[.slice A0 d.f0.length c0,.slice A1 d.f1.length c1,.slice A2 d.f2.length c2,.int .i64 d.f3])∧Foot (o3 w0.heap.size (.slice A0 d.f0.length c0) (.slice A1 d.f1.length c1) (.slice A2 d.f2.length c2) d) w' (fun k=>w.heap.size≤k)∧Below w.heap.size w w'):=
 (Sa (dO hd fV) hs).mono (fun e w' ⟨v0,v1,v2,he,hF,hb⟩=>by
  obtain⟨A0,c0,A1,c1,A2,c2,rfl,rfl,rfl⟩:=hF.now.open;exact⟨A0,c0,A1,c1,A2,c2,he,hF.imp (fun W h=>h.lower fV.size),hb⟩)
theorem Lo {w0 w:World} {c0:Array Value} {d0 d1:Dk} {v0 v1 v2:Value} {p0 p1 p2:Nat→Prop} (hB:Below w0.heap.size w0 w) (h0:cO c0 d0 w0) (g0:Kd.S bc 63 w w0.heap.size p0 v0 d1.f0) (g1:Kd.R an 89 w w0.heap.size p1 v1 d1.f1) (g2:Kd.R an 89 w w0.heap.size p2 v2 d1.f2)
 (hne:∀k,v1.ownBlock=some k→v2.ownBlock≠some k) (s0:Small d0.f0 d0.f1 d0.f2) (s1:Small d1.f0 d1.f1 d1.f2):Calls Tryz.prog 95 #[.agg c0,.agg #[v0,v1,v2,.int .i64 d1.f3]] w (fun e w'=>∃cs',e = .returned (.tuple #[.agg cs',.int .i64 (iT d0.f0 d0.f1 d0.f2 d0.f3 d1.f0 d1.f1 d1.f2 d1.f3).2.2.2.2])∧Fr w0.heap.size (KW w0 w) cs' (b8 (iT d0.f0 d0.f1 d0.f2 d0.f3 d1.f0 d1.f1 d1.f2 d1.f3)) w'∧Below w0.heap.size w0 w'∧Kept w w' (fun k=>∃cells:Array Value × (Nat × Nat),w.heap[k]? = some (.cells cells.1 89 cells.2))):=by
 have t1:=Kd.fb g1;have t2:=Kd.fb g2;have b0:=Kd.kS (Kd.o4 (Kd.o4 g0 t1 (by decide)) t2 (by decide));obtain⟨A3,c3,rfl⟩:=Kd.jv g0;have r3:=Kd.iI g0;have hF:Kd.F bc w (fun k=>((w0.heap.size≤k∧∃q,q≠27∧∃cells:Array Value × (Nat × Nat),w.heap[k]? = some (.cells cells.1 q cells.2))∧some k≠v1.ownBlock∧some k≠v2.ownBlock)∧k<w.heap.size) A3 d1.f0.length d1.f0:=Kd.Mt (Kd.Mu (Kd.UQ (Kd.qD b0)) (fun k hk=>⟨⟨hk.2.1,by obtain⟨q,hq,cells,hc⟩:=hk.2.2.2;exact⟨q,fun e=>absurd (e▸hq) (by decide),cells,hc⟩⟩,hk.1.1.2,hk.1.2⟩));have u1:=Kd.eK g1;have u2:=Kd.eK g2;obtain⟨A4,c4,rfl,l4,r4⟩:=Kd.oY g1;obtain⟨A5,c5,rfl,l5,r5⟩:=Kd.oY g2;have hw:=hB.size;have o1:∀ {v:Value} {l:List aa} {p:Nat→Prop},Kd.R an 89 w w0.heap.size p v l→∀k,some k=v.ownBlock→KW w0 w k:=fun g k h=>Or.inr ⟨Kd.fF g k h.symm,by obtain⟨cells,hc⟩:=Kd.fb g k h.symm;exact⟨89,by decide,cells,hc⟩⟩
 refine(ZM (d1:=d1) (dO h0 hB) hF r3.2.1 r4 l4 r5 l5 s0 s1).mono (fun e w' ⟨hb,hq⟩=>?_)
 rcases hq with ⟨hz,v,he,hN⟩|⟨hz,x0,x1,x2,he,hR⟩
 ·rw[show iT d0.f0 d0.f1 d0.f2 d0.f3 d1.f0 d1.f1 d1.f2 d1.f3=(kept d1.f0 d1.f1 d1.f2,d1.f1,d1.f2,d1.f3,0) from if_pos hz];refine⟨_,he,⟨_,_,_,rfl,Kd.Bt (Kd.ke hN (fun k hk=>?_)) hw,Kd.aK (Kd.bD (Kd.kf rfl g1) hb) (fun k hk=>⟨o1 g1 k hk,fun e=>hne k hk.symm e.symm⟩),Kd.aK (Kd.bD (Kd.kf rfl g2) hb) (fun k hk=>⟨o1 g2 k hk,fun e=>hne k e.symm hk.symm⟩)⟩,ar hB hb,Kept.nr hb _⟩
  rcases hk with hk|hk
  ·exact⟨Or.inr hk.1.1,hk.1.2⟩
  ·exact⟨Or.inl hk,fun e=>by have:=u1 k e.symm;omega,fun e=>by have:=u2 k e.symm;omega⟩
 ·rw[show iT d0.f0 d0.f1 d0.f2 d0.f3 d1.f0 d1.f1 d1.f2 d1.f3=(d0.f0,d0.f1,d0.f2,d0.f3,4) from if_neg hz];exact⟨_,he,Fr.mono hR.fr hw (fun k hk=>Or.inl hk),ar hB hb,Kept.nr hb _⟩
theorem al9 {w0 w:World} {X:Nat→Prop} {bs:List (Nat × Array Value)} {Q:World→Prop} (h:St w0 X bs Q w):∀b ∈ bs,¬ ∃cells:Array Value × (Nat × Nat),w.heap[b.1]? = some (.cells cells.1 89 cells.2):=fun b hm ⟨cells,hc⟩=>by
 rw[(h.bx b hm).2.2]at hc;injection hc with hc
 injection hc with _ hc
 exact absurd hc (by decide)
abbrev Xo (w:World) (k:Nat):Prop:=k<w.heap.size
theorem xO {w0 w:World} (h:Below w0.heap.size w0 w):∀k,w.heap.size≤k→¬Xo w0 k:=fun k hk hl=>by have:=h.size;unfold Xo at hl;omega
theorem St.ends {w0 w w1:World} {bs:List (Nat × Array Value)} {Q Q':World→Prop} (h:St w0 (Xo w0) bs Q w) (hb:Below w0.heap.size w0 w1) (hk:Kept w w1 (fun k=>∃cells:Array Value × (Nat × Nat),w.heap[k]? = some (.cells cells.1 89 cells.2))) (hq:Foot Q' w1 (KW w0 w)):St w0 (Xo w0) bs Q' w1:=by
 refine((h.kept hb hk (al9 h)).and (hq.mono (fun k ho=>?_))).imp (fun _ h=>h.2)
 rcases ho with ho|⟨ho,q,hq,cells,hc⟩
 ·exact⟨xO h.be k ho,fun b hm e=>by have:=eF (h.bx b hm).2.2;omega⟩
 ·refine⟨Nat.not_lt.2 ho,fun b hm e=>?_⟩;have h2:=(h.bx b hm).2.2;rw[e,hc]at h2;injection h2 with h2
  injection h2 with _ h2
  exact hq h2
theorem St.JA {w0 w w1:World} {bs:List (Nat × Array Value)} {Q:World→Prop} {cs:Array Value} {d:Dk} (h:St w0 (Xo w0) bs Q w) (hb:Below w0.heap.size w0 w1) (hk:Kept w w1 (fun k=>∃cells:Array Value × (Nat × Nat),w.heap[k]? = some (.cells cells.1 89 cells.2))) (hq:Fr w0.heap.size (KW w0 w) cs d w1):St w0 (Xo w0) bs (Fd w0.heap.size cs d) w1:=
 (h.ends hb hk hq.nc).imp (fun _ g=>Fr.mono g (Nat.le_refl _) (fun _ hk=>hk.elim (fun h1=>Nat.le_trans h.be.size h1) (fun h=>h.1)))
theorem St.rf {w0 w:World} {bs:List (Nat × Array Value)} {cs:Array Value} {d:Dk} (h:St w0 (Xo w0) bs (Fd w0.heap.size cs d) w):Rf w0 w cs d:=⟨h.ft.mono (fun k hk=>Nat.not_lt.1 hk.1),h.be⟩
theorem ZR {w0 w:World} {A:Option Addr} {c:Nat} {l:List aa} {nm:ByteArray} (fV:Below w0.heap.size w0 w) (hr:Kd.C an w A l.length l) (hc:l.length≤c) (hl:l.length≤1048576):Calls Tryz.prog 113 #[.slice A l.length c,.string nm] w (fun e w'=>∃A' c',e = .returned (.slice A' (fw l nm).length c')∧Foot (fun W=>Kd.R an 89 W w0.heap.size (fun k=>w.heap.size≤k) (.slice A' (fw l nm).length c') (fw l nm)) w' (fun k=>w.heap.size≤k)∧Below w.heap.size w w'):=by
 obtain⟨K,hk⟩:=ana l nm hl;refine(lI.calls K A c l nm _ w hr hc (hk K (Nat.le_refl _))).mono (fun e w' ⟨v0,he,h0,hb⟩=>?_);have g:=Kd.iR h0;obtain⟨A',c',rfl⟩:=Kd.b7 g;exact⟨A',c',he,JI (Kd.cg (Kd.aK g (fun k hk=>hk.2.1)) fV.size),hb⟩
set_option maxHeartbeats 8000000 in
set_option maxRecDepth 100000 in
theorem amO {w:World} {cs:Array Value} {d:Dk} {nm:ByteArray} (hd:cO cs d w) (hs:Small d.f0 d.f1 d.f2) (hn:nm.size≤9223372036854775807):Calls Tryz.prog 76 #[.agg cs,.string nm] w (Pe w (oI d.f0 d.f1 d.f2 d.f3 nm)):=by
 have kA:=hd;obtain⟨a0,e0,a1,e1,a2,e2,rfl,_⟩:=hd.open;clear hd;have HS:=St.start w (Xo w);by_cases hzz:df (bR d.f0 d.f1 d.f2 d.f3) d.f1 nm=0
 case' pos=>rw[show oI d.f0 d.f1 d.f2 d.f3 nm=iT d.f0 d.f1 d.f2 d.f3 d.f0 (fw d.f1 nm) d.f2 d.f3 from if_pos hzz]
 case' neg=>rw[show oI d.f0 d.f1 d.f2 d.f3 nm=(d.f0,d.f1,d.f2,d.f3,df (bR d.f0 d.f1 d.f2 d.f3) d.f1 nm) from if_neg hzz]
 all_goals generalize hz:df (bR d.f0 d.f1 d.f2 d.f3) d.f1 nm=z at hzz ⊢;replace hz:=J hz
 case' pos=>have h0:(z != 0)=false:=by simpa using hzz
 case' neg=>have h0:(z != 0)=true:=by simpa using hzz
 all_goals
  clear hzz;go_enter Tryz.func76,Tryz.ntmps76;go_wp2_with (first|((with_reducible refine aH (N:=2) rfl ?_);refine aT 2 #[.slice a0 d.f0.length e0,.slice a1 d.f1.length e1,.slice a2 d.f2.length e2,.int .i64 d.f3] 27 ?_;intro g2 hg w1 hx hb;replace HS:=HS.box hg hx hb rfl;clear hb hx hg)|((with_reducible refine aH (N:=4) rfl ?_);refine aT 4 #[.slice none 0 0,.slice none 0 0,.slice none 0 0,.int .i64 0] 27 ?_;intro g4 hg w1 hx hb;replace HS:=HS.box hg hx hb rfl;clear hb hx hg)|((with_reducible refine aH (N:=6) rfl ?_);refine aT 6 #[.slice none 0 0,.slice none 0 0,.slice none 0 0,.int .i64 0] 27 ?_;intro g6 hg w1 hx hb;replace HS:=HS.box hg hx hb rfl;clear hb hx hg)|(first|refine bu 0 HS ?_|refine bu 1 HS ?_|refine bu 2 HS ?_|refine kI 0 1 HS ?_)|((with_reducible refine aJ (f:=31) rfl ?_);refine bP Tryz.func31 (Ll HS.be kA hs) ?_;rintro e w1 ⟨A0,c0,A1,c1,A2,c2,rfl,hF,hb⟩;refine⟨_,rfl,?_⟩;replace HS:=(HS.call hb hF (xO HS.be)).imp (fun _ h=>h.2);clear hF hb)|((with_reducible refine aJ (f:=30) rfl ?_);refine bP Tryz.func30 (CJ (dO kA HS.be) hs hn) ?_;rintro e w1 ⟨rfl,hb⟩;refine⟨_,rfl,?_⟩;replace HS:=HS.below hb;clear hb;rw[hz.1])|((with_reducible refine ej rfl ?_);(first|refine dQ 0 HS HS.q.cm ?_|refine dQ 1 HS HS.q.cm ?_);intro w1 HT;replace HS:=HT;clear HT;simp only[List.set]at HS)|((with_reducible refine aJ (f:=113) rfl ?_);have wR:=Kd.eK HS.q.2.2;have nj:=Kd.bK HS.q.2.1;refine bP Tryz.func113 (ZR HS.be nj.2.2 nj.2.1 hs.h1) ?_;rintro e w1 ⟨A3,c3,rfl,hF,hb⟩;have hne:Aside0 (∀k,(Value.slice A3 (fw d.f1 nm).length c3).ownBlock=some k→(Value.slice A2 d.f2.length c2).ownBlock≠some k):=⟨fun k h1 h2=>Nat.lt_irrefl _ (Nat.lt_of_lt_of_le (wR k h2) (hF.now.1 k h1))⟩;refine⟨_,rfl,?_⟩;replace HS:=HS.call hb hF (xO HS.be);clear hF hb nj wR)|((with_reducible refine aJ (f:=95) rfl ?_);refine bP Tryz.func95 (Lo (d1:=⟨d.f0,fw d.f1 nm,d.f2,d.f3⟩) HS.be kA HS.q.1.1 HS.q.2 HS.q.1.2.2 hne.1 hs (hs.fw nm)) ?_;rintro e w1 ⟨c9,rfl,hF,hb,hk⟩;refine⟨_,rfl,?_⟩;replace HS:=HS.JA hb hk hF;clear hF hb hk)|((with_reducible refine ej rfl ?_);refine AS 0 1 HS ?_;intro w1 HT;replace HS:=HT;clear HT;simp only[List.set,zA,zB,zC]at HS)|((with_reducible refine ej rfl ?_);refine dQ 1 HS HS.q.cm ?_;intro w1 HT;replace HS:=HT;clear HT;simp only[List.set]at HS))
 all_goals first|exact bodyPost_ret (hG rfl _ _ g4 27 c9 (0,0) _ rfl (HS.bx _ (.tail _ (.head _))).2.2 Tryz.underlying27 rfl (by rw[Tryz.gT,HS.q.size])) rfl ⟨c9,rfl,HS.rf⟩|exact bodyPost_ret (hG rfl _ _ g4 27 _ (0,0) _ rfl (HS.bx _ (.tail _ (.head _))).2.2 Tryz.underlying27 rfl (by rw[Tryz.gT];rfl)) rfl ⟨_,rfl,(HS.imp (fun _ h=>h.fr)).rf⟩
theorem ZK {w:World} {A:Option Addr} {c:Nat} {l:List aa} {nm:ByteArray} (hr:Kd.C an w A l.length l) (hc:l.length≤c) (hl:l.length≤1048576):Calls Tryz.prog 73 #[.slice A l.length c,.string nm] w (fun e w'=>e = .returned (.int .i64 (nameAt l nm))∧Below w.heap.size w w'):=by
 obtain⟨K,hk⟩:=Hy l nm hl;exact(gJ.calls K A c l nm _ w hr hc (hk K (Nat.le_refl _))).mono (fun e w' ⟨he,m,hd⟩=>⟨he,by subst hd;exact jZ (Below.refl _ _) m⟩)
theorem ZQ {w0 w:World} {A:Option Addr} {c:Nat} {l l':List aa} {nm:ByteArray} {n:Int} (fV:Below w0.heap.size w0 w) (hr:Kd.C an w A l.length l) (hc:l.length≤c) (hl:l.length≤1048576) (hev:Ev (fun k=>dw.f k l nm n) l'):Calls Tryz.prog 94 #[.slice A l.length c,.agg #[.string nm,.int .i64 n]] w (fun e w'=>∃A' c',e = .returned (.slice A' l'.length c')∧Foot (fun W=>Kd.R an 89 W w0.heap.size (fun k=>w.heap.size≤k) (.slice A' l'.length c') l') w' (fun k=>w.heap.size≤k)∧Below w.heap.size w w'):=by
 obtain⟨K,hk⟩:=hev;refine(dw.calls K A c l nm n _ w hr hc (hk K (Nat.le_refl _))).mono (fun e w' ⟨v0,he,h0,hb⟩=>?_);have g:=Kd.iR h0;obtain⟨A',c',rfl⟩:=Kd.b7 g;exact⟨A',c',he,JI (Kd.cg (Kd.aK g (fun k hk=>hk.2.1)) fV.size),hb⟩
set_option maxHeartbeats 8000000 in
set_option maxRecDepth 100000 in
theorem amQ {w:World} {cs:Array Value} {d:Dk} {nm nq:ByteArray} (hd:cO cs d w) (hs:Small d.f0 d.f1 d.f2) (hn:nm.size≤9223372036854775807) (hq:nq.size≤9223372036854775807):Calls Tryz.prog 77 #[.agg cs,.string nm,.string nq] w (Pe w (qd d.f0 d.f1 d.f2 d.f3 nm nq)):=by
 have kA:=hd;obtain⟨a0,e0,a1,e1,a2,e2,rfl,_⟩:=hd.open;clear hd;have HS:=St.start w (Xo w);unfold qd;generalize hz:df (bR d.f0 d.f1 d.f2 d.f3) d.f1 nm=z
 replace hz:=J hz;generalize hno:fv nq=b
 replace hno:=J hno;by_cases h1:z=1
 case' pos=>rw[if_pos (Or.inl h1)];have h1b:(z == 1)=true:=beq_iff_eq.2 h1;clear h1
 case' neg=>
  have h1b:(z == 1)=false:=beq_eq_false_iff_ne.2 h1;cases b
  case' false=>rw[if_pos (Or.inr rfl)];clear h1
  case' true=>
   rw[if_neg (fun h=>h.elim h1 (by simp))];by_cases h0:z=0
   case' neg=>rw[if_neg h0];have h0b:(z != 0)=true:=bne_iff_ne.2 h0;clear h0 h1
   case' pos=>
    rw[if_pos h0];have h0b:(z != 0)=false:=by simpa using h0
    replace h0:=J h0;clear h1;by_cases he:nm.toList=nq.toList
    case' pos=>rw[if_pos he];have heb:(nm.toList == nq.toList)=true:=beq_iff_eq.2 he;clear he
    case' neg=>rw[if_neg he];have heb:(nm.toList == nq.toList)=false:=beq_eq_false_iff_ne.2 he;clear he
 all_goals
  go_enter Tryz.func77,Tryz.ntmps77;go_wp2_with (first|((with_reducible refine aH (N:=3) rfl ?_);refine aT 3 #[.slice a0 d.f0.length e0,.slice a1 d.f1.length e1,.slice a2 d.f2.length e2,.int .i64 d.f3] 27 ?_;intro g3 hg w1 hx hb;replace HS:=HS.box hg hx hb rfl;clear hb hx hg)|((with_reducible refine aH (N:=6) rfl ?_);refine aT 6 #[.slice none 0 0,.slice none 0 0,.slice none 0 0,.int .i64 0] 27 ?_;intro g6 hg w1 hx hb;replace HS:=HS.box hg hx hb rfl;clear hb hx hg)|((with_reducible refine aH (N:=8) rfl ?_);refine aT 8 #[.slice none 0 0,.slice none 0 0,.slice none 0 0,.int .i64 0] 27 ?_;intro g8 hg w1 hx hb;replace HS:=HS.box hg hx hb rfl;clear hb hx hg)|(first|refine bu 0 HS ?_|refine bu 1 HS ?_|refine bu 2 HS ?_|refine kI 0 1 HS ?_)|((with_reducible refine aJ (f:=31) rfl ?_);refine bP Tryz.func31 (Ll HS.be kA hs) ?_;rintro e w1 ⟨A0,c0,A1,c1,A2,c2,rfl,hF,hb⟩;refine⟨_,rfl,?_⟩;replace HS:=(HS.call hb hF (xO HS.be)).imp (fun _ h=>h.2);clear hF hb)|((with_reducible refine aJ (f:=30) rfl ?_);refine bP Tryz.func30 (CJ (dO kA HS.be) hs hn) ?_;rintro e w1 ⟨rfl,hb⟩;refine⟨_,rfl,?_⟩;replace HS:=HS.below hb;clear hb;rw[hz.1])|((with_reducible refine aJ (f:=72) rfl ?_);(try (refine jx (by rfl) ?_;dsimp only));refine bP Tryz.func72 (ZO hq) ?_;rintro e w1 ⟨rfl,hb⟩;refine⟨_,rfl,?_⟩;replace HS:=HS.below hb;clear hb;rw[hno.1])|((with_reducible refine ej rfl ?_);(first|refine dQ 0 HS HS.q.cm ?_|refine dQ 1 HS HS.q.cm ?_);intro w1 HT;replace HS:=HT;clear HT;simp only[List.set]at HS))
 any_goals exact bodyPost_ret (hG rfl _ _ g6 27 _ (0,0) _ rfl (HS.bx _ (.tail _ (.head _))).2.2 Tryz.underlying27 rfl (by rw[Tryz.gT];rfl)) rfl ⟨_,by first|rfl|(rw[h0.1];rfl),(HS.imp (fun _ h=>h.fr)).rf⟩
 obtain⟨hok,_,j,m,hj,hja,hid,_,_,_⟩:=Ow (hz.1.trans h0.1);have hwi:Ev (fun k=>dw.f k (fw d.f1 nm) nq (du d.f1 nm)) (renamed d.f1 nm nq):=alQ (fw d.f1 nm) nq _ (Nat.le_trans (xy d.f1 nm) hs.h1) (SH nm (JD (uq hok).2.1));have hrd:=Kd.bK HS.q.2.1;obtain⟨ad,rfl,zn,Gh⟩:=gi hrd.2.2 (j:Int) (by omega) (by omega);rw[←hid,Int.toNat_natCast]at Gh;have q1:=eq_true (show (0:Int)≤(j:Int) by omega);have q2:=eq_true (show (j:Int)<(d.f1.length:Int) by omega);replace hid:=J hid;replace hja:=J hja;replace hok:=J hok;refine fk (n:=10) (S:=fun W=>W.cell? ⟨g8,1,none⟩=some (.slice (some ad) d.f1.length c1)∧W.cell? ⟨(ad.add (j*2)).block,(ad.add (j*2)).off+1,none⟩=some (.int .i64 (du d.f1 nm))) (ds:=[]) (mb 0 10) (by kernel_rfl) rfl rfl ⟨mZ (HS.bx _ (.head _)).2.2 1,Gh⟩ (fun hh=>?_);replace HS:=HS.drew;refine rP 0 (mb 1 9) ?_;refine rP 2 (mr [1,1,1,7]) ?_;refine rP 4 (mr [1,1,1,1,1,5]) ?_;refine rT 1 (mr [3,1,1,5]) hh ?_;refine rT 3 (mb 5 5) hh ?_;refine rC 5 (mb 6 4) Tryz.func73 (ZK (Kd.bK HS.q.2.1).2.2 (Kd.bK HS.q.2.1).2.1 hs.h1) ?_;rintro e w5 ⟨rfl,hb⟩;replace HS:=HS.below hb;rw[hja.1];refine⟨_,rfl,⟨mX hb hh.1,mX hb hh.2⟩,fun hh=>rN ?_⟩;clear hb;refine rP 6 (mb 7 3) ?_;refine rP 7 (mb 8 2) ?_;refine rT 8 (mb 9 1) hh ?_;refine rP 9 (mb 10 0) ?_;refine fA (by kernel_rfl) ?_;clear hh zn Gh;replace hok:=hok.1;go_wp2_with (first|(first|refine bu 0 HS ?_|refine bu 1 HS ?_|refine bu 2 HS ?_|refine kI 0 1 HS ?_)|((with_reducible refine aJ (f:=113) rfl ?_);have nj:=Kd.bK HS.q.2.1;refine bP Tryz.func113 (ZR HS.be nj.2.2 nj.2.1 hs.h1) ?_;rintro e w1 ⟨A3,c3,rfl,hF,hb⟩;refine⟨_,rfl,?_⟩;replace HS:=HS.call hb hF (xO HS.be);clear hF hb nj)|((with_reducible refine aJ (f:=94) rfl ?_);have nj:=Kd.bK HS.q.2;have wR:=Kd.eK HS.q.1.2.2;refine bP Tryz.func94 (ZQ HS.be nj.2.2 nj.2.1 (Nat.le_trans (xy d.f1 nm) hs.h1) hwi) ?_;rintro e w1 ⟨A4,c4,rfl,hF,hb⟩;have hne:Aside0 (∀k,(Value.slice A4 (renamed d.f1 nm nq).length c4).ownBlock=some k→(Value.slice A2 d.f2.length c2).ownBlock≠some k):=⟨fun k h1 h2=>Nat.lt_irrefl _ (Nat.lt_of_lt_of_le (wR k h2) (hF.now.1 k h1))⟩;refine⟨_,rfl,?_⟩;replace HS:=(HS.call hb hF (xO HS.be)).imp (fun _ h=>And.intro h.1.1 h.2);clear hF hb nj wR)|((with_reducible refine aJ (f:=95) rfl ?_);refine bP Tryz.func95 (Lo (d1:=⟨d.f0,renamed d.f1 nm nq,d.f2,d.f3⟩) HS.be kA HS.q.1.1 HS.q.2 HS.q.1.2.2 hne.1 hs (ZG hs hok hq)) ?_;rintro e w1 ⟨c9,rfl,hF,hb,hk⟩;refine⟨_,rfl,?_⟩;replace HS:=HS.JA hb hk hF;clear hF hb hk)|((with_reducible refine ej rfl ?_);refine AS 0 1 HS ?_;intro w1 HT;replace HS:=HT;clear HT;simp only[List.set,zA,zB,zC]at HS)|((with_reducible refine ej rfl ?_);refine dQ 1 HS HS.q.cm ?_;intro w1 HT;replace HS:=HT;clear HT;simp only[List.set]at HS));exact bodyPost_ret (hG rfl _ _ g6 27 c9 (0,0) _ rfl (HS.bx _ (.tail _ (.head _))).2.2 Tryz.underlying27 rfl (by rw[Tryz.gT,HS.q.size])) rfl ⟨c9,rfl,HS.rf⟩
end Go.Proofs.YtingkpnoiekliaaGreat.MZ
end
section
namespace Go.Proofs.YtingkpnoiekliaaGreat.MZ
open Go.RowKit Go.Proofs.YtingkpnoiekliaaGreatW.PrintWords Go.Proofs.YtingkpnoiekliaaGreatW.PrintLast Go.Proofs.YtingkpnoiekliaaGreatW.PrintMore Go.Proofs.YtingkpnoiekliaaGreat.MWords
attribute [local go_sem] max2_int min2_int max_two min_two max_three min_three max_four min_four
set_option linter.unusedVariables false
set_option linter.unusedSimpArgs false
def acr (w0 W:World) (g:Nat) (f0:List Int) (f1:Int) (f2:Int):Prop:=∃A0 c0,W.heap[g]? = some (.cells #[.slice A0 f0.length c0,.int .i64 f1,.int .i64 f2] 79 (0,0))∧w0.heap.size≤g∧Kd.C (Kd.int .u8) w0 A0 f0.length f0
mutual
def CM.U:Nat→List Int→Int→Int→Option (List Int × Int × Int)
 |0,_,_,_=>none
 |k+1,x0,x3,x4=>if x4<(x0.length:Int) then (CM.j1 k x0 x3 x4 (decide (x4<4000))) else (CM.j1 k x0 x3 x4 false)
def CM.j1:Nat→List Int→Int→Int→Bool→Option (List Int × Int × Int)
 |0,_,_,_,_=>none
 |k+1,x0,x3,x4,x15=>if x15=true then (if 0≤x4 then (if x4<(x0.length:Int) then (CM.U k x0 (Go.bits .and .i64 (wrap64 ((wrap64 ((wrap64 (x3*137))+(wrap64 (rd x0 x4))))+11)) 1073741823) (wrap64 (x4+1))) else (none)) else (none)) else (some (x0,0,x3))
end
def CM.f (k:Nat) (U:List Int):Option (List Int × Int × Int):=CM.U k U (wrap64 (281281+(U.length:Int))) 0
def H0.f (jC:List Int) (j5:Int) (jD:Int):Option (Int × Int × Int):=if j5<(jC.length:Int) then (if 0≤j5 then (some (Go.bits .and .i64 (wrap64 ((Go.bits .and .i64 (Go.bits .xor .i64 ((wrap64 ((wrap64 (jD*6364136223846793005))+1442695040888963407)) / 8589934592) ((wrap64 ((wrap64 (jD*6364136223846793005))+1442695040888963407)) / 140737488355328)) 255)+(wrap64 (rd jC j5)))) 255,wrap64 (j5+1),wrap64 ((wrap64 (jD*6364136223846793005))+1442695040888963407))) else (none)) else (some (Go.bits .and .i64 (Go.bits .xor .i64 ((wrap64 ((wrap64 (jD*6364136223846793005))+1442695040888963407)) / 8589934592) ((wrap64 ((wrap64 (jD*6364136223846793005))+1442695040888963407)) / 140737488355328)) 255,j5,wrap64 ((wrap64 (jD*6364136223846793005))+1442695040888963407)))
def Sf.f (jC:List Int) (j5:Int) (jD:Int) (a1:Int):Option (Int × Int × Int):=if a1≤0 then (some (0,j5,jD)) else (if a1≤256 then ((H0.f jC j5 jD).bind fun Oa=>(if a1=0 then (none) else (some (Int.tmod Oa.1 a1,Oa.2.1,Oa.2.2)))) else ((H0.f jC j5 jD).bind fun Ob=>((H0.f jC Ob.2.1 Ob.2.2).bind fun Oc=>((H0.f jC Oc.2.1 Oc.2.2).bind fun Od=>(if a1=0 then (none) else (some (Int.tmod (wrap64 ((wrap64 ((wrap64 (Ob.1*65536))+(wrap64 (Oc.1*256))))+Od.1)) a1,Od.2.1,Od.2.2)))))))
def anh.f (jC:List Int) (j5:Int) (jD:Int) (a1:Int):Option (Bool × Int × Int):=(Sf.f jC j5 jD a1).bind fun Oe=>(some ((Oe.1 == 0),Oe.2.1,Oe.2.2))
def Z0.f (jC:List Int) (j5:Int) (jD:Int) (l1:List ByteArray):Option (ByteArray × Int × Int):=(Sf.f jC j5 jD (l1.length:Int)).bind fun Eg=>(if 0≤Eg.1 then (if Eg.1<(l1.length:Int) then (some (jo ByteArray.empty l1 Eg.1,Eg.2.1,Eg.2.2)) else (none)) else (none))
def ani.f (jC:List Int) (j5:Int) (jD:Int):Option (ByteArray × Int × Int):=(Z0.f jC j5 jD (([(⟨#[97]⟩:ByteArray),(⟨#[98]⟩:ByteArray),(⟨#[108,111,103,45,49]⟩:ByteArray),(⟨#[99,117,114]⟩:ByteArray),(⟨#[116,109,112]⟩:ByteArray),(⟨#[120,46,57]⟩:ByteArray)]:List ByteArray))).bind fun Of=>(some (Of.1,Of.2.1,Of.2.2))
def ang.f (jC:List Int) (j5:Int) (jD:Int) (l1:List Int):Option (Int × Int × Int):=(Sf.f jC j5 jD (l1.length:Int)).bind fun Eh=>(if 0≤Eh.1 then (if Eh.1<(l1.length:Int) then (some (rd l1 Eh.1,Eh.2.1,Eh.2.2)) else (none)) else (none))
def Lq.U:Nat→Int→List Int→Int→List Int→Int→Int→Option (List Int × Int × Int)
 |0,_,_,_,_,_,_=>none
 |k+1,x1,x5,x6,aaE,aaF,aaG=>if x6<x1 then ((H0.f aaE aaF aaG).bind fun Og=>(if x5.length<140737488355328 then (Lq.U k x1 (x5++[(Og.1) % 256]) (wrap64 (x6+1)) aaE Og.2.1 Og.2.2) else (none))) else (some (x5,aaF,aaG))
def Lq.f (k:Nat) (jC:List Int) (j5:Int) (jD:Int) (a1:Int):Option (List Int × Int × Int):=Lq.U k a1 (([]:List Int)) 0 jC j5 jD
def ax9.f (k:Nat) (jC:List Int) (j5:Int) (jD:Int):Option (List Int × Int × Int):=(ang.f jC j5 jD (([0,1,2,5,9]:List Int))).bind fun Oh=>((Lq.f k jC Oh.2.1 Oh.2.2 Oh.1).bind fun Oi=>(some (Oi.1,Oi.2.1,Oi.2.2)))
def aya.f (jC:List Int) (j5:Int) (jD:Int):Option (ByteArray × Int × Int):=(anh.f jC j5 jD 12).bind fun Ej=>(if Ej.1=true then ((Z0.f jC Ej.2.1 Ej.2.2 (([(⟨#[]⟩:ByteArray),(⟨#[65]⟩:ByteArray),(⟨#[116,104,105,114,116,101,101,110,45,108,111,110,103]⟩:ByteArray),(⟨#[116,119,101,108,118,101,45,108,111,110,103,49]⟩:ByteArray),(⟨#[97,32,98]⟩:ByteArray)]:List ByteArray))).bind fun Oj=>(some (Oj.1,Oj.2.1,Oj.2.2))) else ((ani.f jC Ej.2.1 Ej.2.2).bind fun Ol=>(some (Ol.1,Ol.2.1,Ol.2.2))))
end Go.Proofs.YtingkpnoiekliaaGreat.MZ
end
