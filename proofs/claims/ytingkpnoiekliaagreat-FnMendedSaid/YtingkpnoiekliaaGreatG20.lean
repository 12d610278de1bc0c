/- Walks and plain laws, put together: no condition of their own. -/
import Derived.Test.YtingkpnoiekliaaGreatG1
import Derived.Test.YtingkpnoiekliaaGreatG19
import Derived.Test.YtingkpnoiekliaaGreatVAll
import Derived.Test.YtingkpnoiekliaaGreatMZx17
import Derived.Test.YtingkpnoiekliaaGreatMZx26
section
namespace Go.Proofs.YtingkpnoiekliaaGreat.MZ
open Go.RowKit Go.Proofs.YtingkpnoiekliaaGreatW.PrintWords Go.Proofs.YtingkpnoiekliaaGreatW.PrintLast Go.Proofs.YtingkpnoiekliaaGreatW.PrintMore Go.Proofs.YtingkpnoiekliaaGreat.MWords Go.Proofs.YtingkpnoiekliaaGreat.MZ
set_option linter.unusedVariables false
set_option linter.unusedSimpArgs false
set_option maxHeartbeats 8000000 in
set_option maxRecDepth 100000 in
theorem P5 {w:World} {cs:Array Value} {d:Dk} (hd:cH cs d w) (hs:Small d.f0 d.f1 d.f2):Calls Tryz.prog 63 #[.agg cs] w (Pe w (oX d.f0 d.f1 d.f2 d.f3)):=by
 have kT:=hd;obtain⟨a0,e0,a1,e1,a2,e2,rfl,_⟩:=hd.open;clear hd;have HS:=St.start w (Xo w);have Om:Small d.f0 d.f1 d.f1:=⟨hs.h0,hs.hd,hs.h1,hs.h1,hs.z1,hs.z1⟩;unfold oX;generalize hk:bO d.f0 d.f1 d.f2 d.f3=z
 replace hk:=J hk;cases z
 case' false=>rw[if_neg (by decide)]
 case' true=>rw[if_pos rfl]
 all_goals
  go_enter Tryz.func63,Tryz.ntmps63;go_wp2_with (first|((with_reducible refine aM (N:=1) rfl ?_);refine bg 1 #[.slice a0 d.f0.length e0,.slice a1 d.f1.length e1,.slice a2 d.f2.length e2,.int .i64 d.f3] 27 ?_;intro g1 hg w1 hx hb;replace HS:=HS.box hg hx hb rfl;clear hb hx hg)|((with_reducible refine aM (N:=2) rfl ?_);refine bg 2 #[.slice none 0 0,.slice none 0 0,.slice none 0 0,.int .i64 0] 27 ?_;intro g2 hg w1 hx hb;replace HS:=HS.box hg hx hb rfl;clear hb hx hg)|((with_reducible refine aM (N:=4) rfl ?_);refine bg 4 #[.slice none 0 0,.slice none 0 0,.slice none 0 0,.int .i64 0] 27 ?_;intro g4 hg w1 hx hb;replace HS:=HS.box hg hx hb rfl;clear hb hx hg)|(first|refine br 0 HS ?_|refine br 1 HS ?_|refine br 2 HS ?_|refine kL 0 1 HS ?_)|((with_reducible refine aH (f:=31) rfl ?_);refine bz Tryz.func31 (J5 HS.be kT hs) ?_;rintro e w1 ⟨A0,c0,A1,c1,A2,c2,rfl,hF,hb⟩;refine⟨_,rfl,?_⟩;replace HS:=(HS.call hb hF (xO HS.be)).imp (fun _ h=>h.2);clear hF hb)|((with_reducible refine aH (f:=71) rfl ?_);refine bz Tryz.func71 (sOk (eh kT HS.be) hs) ?_;rintro e w1 ⟨rfl,hb⟩;refine⟨_,rfl,?_⟩;replace HS:=HS.below hb;clear hb;rw[hk.1])|((with_reducible refine aM (N:=11) rfl ?_);have nC:=J (Kd.dK HS.q.2.1);have hsz:=HS.be.size;refine uE (N:=11) 89 HS (xO HS.be) ?_;intro g11 w1 hg hgl hb HT;have hga:=Nat.le_of_eq hg.symm;replace HS:=HT;clear HT hb hg)|((with_reducible refine aM (N:=14) rfl ?_);refine uA ak (N:=14) HS HS.q.2 (by unfold Xo;omega) (xO HS.be) (by omega) (Kd.bG HS.q.1.2.1).2.2 ?_ (by have:=hs.h1;omega) Tryz.underlying25 jr;intro Ye gR w1 av4 av6 hb HT;have hne:Aside0 (∀k,(Value.slice A1 d.f1.length c1).ownBlock=some k→(Value.slice (some ⟨Ye,0,none⟩) d.f1.length gR).ownBlock≠some k):=⟨fun k h1 h2=>by have:=nC.1 k h1;have h3:Ye=k:=(by simpa[Value.ownBlock] using h2);omega⟩;replace HS:=HT.imp (fun _ h=>And.intro h.1.1 h.2);clear HT hb)|((with_reducible refine aH (f:=95) rfl ?_);refine bz Tryz.func95 (J7 (d1:=⟨d.f0,d.f1,d.f1,d.f3⟩) HS.be kT HS.q.1.1 HS.q.1.2.1 HS.q.2 hne.1 hs Om) ?_;rintro e w1 ⟨c9,rfl,hF,hb,hk⟩;refine⟨_,rfl,?_⟩;replace HS:=HS.HQ hb hk hF;clear hF hb hk)|((with_reducible refine dM rfl ?_);refine zH 0 2 HS ?_;intro w1 HT;replace HS:=HT;clear HT;simp only[List.set,zA,zB,zC]at HS)|((with_reducible refine dM rfl ?_);(first|refine eP 0 HS HS.q.bM ?_|refine eP 1 HS HS.q.bM ?_);intro w1 HT;replace HS:=HT;clear HT;simp only[List.set]at HS))
 all_goals first|exact bodyPost_ret (gT rfl _ _ g2 27 c9 (0,0) _ rfl (HS.bx _ (.tail _ (.head _))).2.2 Tryz.underlying27 rfl (by rw[Tryz.fZ,HS.q.size])) rfl ⟨c9,rfl,HS.rf⟩|exact bodyPost_ret (gT rfl _ _ g2 27 _ (0,0) _ rfl (HS.bx _ (.tail _ (.head _))).2.2 Tryz.underlying27 rfl (by rw[Tryz.fZ];rfl)) rfl ⟨_,rfl,(HS.imp (fun _ h=>h.fr)).rf⟩
theorem St.ag3 {w0 w w1:World} {bs:List (Nat × Array Value)} {v0 QB v1 v2:Value} {d:Dk} {l:List aj} {p:Nat→Prop} (h:St w0 (Xo w0) bs (pf w0.heap.size v0 v1 v2 d) w) (hb:Below w0.heap.size w0 w1) (hg:w.grownBy w1 v0.ownBlock) (hS:Kd.S bf 63 w1 w0.heap.size p QB l):St w0 (Xo w0) bs (pf w0.heap.size QB v1 v2 ⟨l,d.f1,d.f2,d.f3⟩) w1:=by
 have t0:=Kd.oJ h.q.1
 have hd:∀ {k q0 q:Nat} {W:World},(∃cells:Array Value × (Nat × Nat),W.heap[k]? = some (.cells cells.1 q0 cells.2))→(∃cells:Array Value × (Nat × Nat),W.heap[k]? = some (.cells cells.1 q cells.2))→q0=q:=fun ⟨c1,h1⟩ ⟨c2,h2⟩=>by
  rw[h1]at h2;injection h2 with h2
  injection h2
 have h1:St w0 (Xo w0) bs (fun _=>True) w1:=h.kept hb (S:=fun k=>v0.ownBlock=some k) ⟨hg.size,fun k hk hn=>hg.block k hk (fun e=>hn e.symm)⟩ (fun b hm e=>absurd (hd (t0 _ e) ⟨(b.2,(0,0)),(h.bx b hm).2.2⟩) (by decide))
 have hbx:∀ {k q:Nat},(∃cells:Array Value × (Nat × Nat),w1.heap[k]? = some (.cells cells.1 q cells.2))→q≠27→∀b ∈ bs,b.1≠k:=fun hc hq b hm e=>by
  subst e;exact hq (hd hc ⟨(b.2,(0,0)),(h1.bx b hm).2.2⟩)
 have hR:∀ {v:Value} {l:List ab} {p:Nat→Prop},Kd.R ak 89 w w0.heap.size p v l→Kd.R ak 89 w1 w0.heap.size (fun k=>some k=v.ownBlock) v l:=fun {v l p} hv=>Kd.nR (Kd.mu rfl hv) (fun k hk hl=>hg.block k hl (fun e=>absurd (hd (t0 _ e.symm) (Kd.fj hv _ hk.symm)) (by decide)))
 have g1:=h.q.2.1;have g2:=h.q.2.2;have f1:=hR g1;have f2:=hR g2;refine(h1.and (fun W hW=>⟨Dy (Kd.nU hS) W (fun k hk=>hW k ⟨Nat.not_lt.2 hk.2.1,?_⟩) |> fun z=>Kd.eu z (fun k hk=>hk.2.1),Kd.aw (Kd.nR f1 (fun k hk=>hW k ⟨Nat.not_lt.2 (Kd.fB f1 k hk.symm),hbx (Kd.fj f1 k hk.symm) (by decide)⟩)) (fun k hk=>g1.1 k hk.symm),Kd.aw (Kd.nR f2 (fun k hk=>hW k ⟨Nat.not_lt.2 (Kd.fB f2 k hk.symm),hbx (Kd.fj f2 k hk.symm) (by decide)⟩)) (fun k hk=>g2.1 k hk.symm)⟩)).imp (fun _ h=>h.2);obtain⟨q,hq,cells,hc⟩:=hk.2.2.2;exact hbx ⟨cells,hc⟩ (fun e=>absurd (e▸hq) (by decide))
set_option maxHeartbeats 8000000 in
set_option maxRecDepth 100000 in
theorem P1 {w:World} {cs:Array Value} {d:Dk} {nm:ByteArray} (hd:cH cs d w) (hs:Small d.f0 d.f1 d.f2) (hn:nm.size≤9223372036854775807):Calls Tryz.prog 58 #[.agg cs,.string nm] w (Pe w (n4 d.f0 d.f1 d.f2 d.f3 nm)):=by
 have kT:=hd;obtain⟨a0,e0,a1,e1,a2,e2,rfl,_⟩:=hd.open;clear hd;have HS:=St.start w (Xo w);unfold n4;generalize hz:dt (bO d.f0 d.f1 d.f2 d.f3) d.f1 nm=z
 by_cases h1:z=1
 case' pos=>rw[if_pos h1];have b1:(z == 1)=true:=beq_iff_eq.2 h1;replace hz:=J hz;clear h1
 case' neg=>
  rw[if_neg h1];have b1:(z == 1)=false:=beq_eq_false_iff_ne.2 h1;by_cases h0:z=0
  case' pos=>rw[if_pos h0];have b0:(z == 0)=true:=beq_iff_eq.2 h0;replace hz:=J hz;clear h0 h1
  case' neg=>
   rw[if_neg h0];have b0:(z == 0)=false:=beq_eq_false_iff_ne.2 h0;have hsm:=Ut hs (afj (hz▸h1)).1 hn;have hwi:=als d.f1 nm d.f3 hs.h1 (Yw (afh (hz▸h1) (hz▸h0)));obtain⟨nx,hnx⟩:∃n,wrap64 (d.f3+1)=n:=⟨_,rfl⟩;have au:(IntKind.i64.wrap (d.f3+1))=nx:=(dD _).trans hnx;rw[hnx];replace hz:=J hz;clear h0 h1 hnx
 all_goals
  go_enter Tryz.func58,Tryz.ntmps58;go_wp2_with (first|((with_reducible refine aM (N:=2) rfl ?_);refine bg 2 #[.slice a0 d.f0.length e0,.slice a1 d.f1.length e1,.slice a2 d.f2.length e2,.int .i64 d.f3] 27 ?_;intro g2 hg w1 hx hb;replace HS:=HS.box hg hx hb rfl;clear hb hx hg)|((with_reducible refine aM (N:=4) rfl ?_);refine bg 4 #[.slice none 0 0,.slice none 0 0,.slice none 0 0,.int .i64 0] 27 ?_;intro g4 hg w1 hx hb;replace HS:=HS.box hg hx hb rfl;clear hb hx hg)|((with_reducible refine aM (N:=6) rfl ?_);refine bg 6 #[.slice none 0 0,.slice none 0 0,.slice none 0 0,.int .i64 0] 27 ?_;intro g6 hg w1 hx hb;replace HS:=HS.box hg hx hb rfl;clear hb hx hg)|(first|refine br 0 HS ?_|refine br 1 HS ?_|refine br 2 HS ?_|refine kL 0 0 HS ?_|refine kL 0 1 HS ?_|refine kL 2 3 HS ?_)|((with_reducible refine aH (f:=31) rfl ?_);refine bz Tryz.func31 (J5 HS.be kT hs) ?_;rintro e w1 ⟨A0,c0,A1,c1,A2,c2,rfl,hF,hb⟩;refine⟨_,rfl,?_⟩;replace HS:=(HS.call hb hF (xO HS.be)).imp (fun _ h=>h.2);clear hF hb)|((with_reducible refine aH (f:=30) rfl ?_);refine bz Tryz.func30 (BD (eh kT HS.be) hs hn) ?_;rintro e w1 ⟨rfl,hb⟩;refine⟨_,rfl,?_⟩;replace HS:=HS.below hb;clear hb;rw[hz.1])|((with_reducible refine aM (N:=23) rfl ?_);refine uL1 #[.int .i64 d.f3,.slice none 0 0,.int .i64 0] 1 63 ?_)|((with_reducible refine aM (N:=24) rfl ?_);refine Kd.G4 bf (w0:=w) w.heap.size (by rfl) (.tmp 19) (.tmp 23) 24 63 (.agg #[.int .i64 0,.slice none 0 0,.int .i64 0]) 40 rfl Tryz.underlying24 yQ rfl (by decide) (by omega) (.slice A0 d.f0.length c0) d.f0 ⟨d.f3,[],0⟩ [.int .i64 d.f3,.slice none 0 0,.int .i64 0] (fun k=>w.heap.size≤k) (fun _=>False) rfl rfl (uZ _ _ _ ⟨d.f3,[],0⟩ (Kd.lS _ _ _ _ _)) (fun _ h=>h.elim) (fun k hk=>Nat.le_trans HS.be.size hk) (Kd.eu HS.q.1 (fun k hk=>⟨hk,fun h=>h⟩)) HS.be HS.be.size (by have:=hs.h0;omega) ?_;intro v7 w7 hS hb hg hat;obtain⟨A7,n7,c7,rfl⟩:∃A n c,v7 = .slice A n c:=(by obtain⟨A,c,h⟩:=Kd.kF hS;exact⟨A,_,c,h⟩);replace HS:=HS.ag3 hb hg hS;clear hS hb hg hat)|((with_reducible refine aH (f:=94) rfl ?_);have nC:=Kd.bG HS.q.2.1;have wR:=Kd.dK HS.q.2.2;refine bz Tryz.func94 (Zb HS.be nC.2.2 nC.2.1 hs.h1 hwi) ?_;rintro e w1 ⟨A3,c3,rfl,hF,hb⟩;have hne:Aside0 (∀k,(Value.slice A3 (iW ⟨nm,d.f3⟩ d.f1).length c3).ownBlock=some k→(Value.slice A2 d.f2.length c2).ownBlock≠some k):=⟨fun k h1 h2=>Nat.lt_irrefl _ (Nat.lt_of_lt_of_le (wR k h2) (hF.now.1 k h1))⟩;refine⟨_,rfl,?_⟩;replace HS:=HS.call hb hF (xO HS.be);generalize (iW ⟨nm,d.f3⟩ d.f1).length=n3 at HS hne ⊢;clear hF hb nC wR)|((with_reducible refine aH (f:=95) rfl ?_);refine bz Tryz.func95 (J7 (d1:=⟨d.f0++[⟨d.f3,[],0⟩],iW ⟨nm,d.f3⟩ d.f1,d.f2,nx⟩) HS.be kT HS.q.1.1 HS.q.2 HS.q.1.2.2 hne.1 hs hsm) ?_;rintro e w1 ⟨c9,rfl,hF,hb,hk⟩;refine⟨_,rfl,?_⟩;replace HS:=HS.HQ hb hk hF;clear hF hb hk)|((with_reducible refine dM rfl ?_);(first|refine zH 0 0 (u:=.slice A7 n7 c7) HS ?_|refine zH 0 1 (u:=.slice A3 n3 c3) HS ?_|refine zH 0 3 (u:=.int .i64 nx) HS ?_);intro w1 HT;replace HS:=HT;clear HT;simp only[List.set,zA,zB,zC]at HS)|((with_reducible refine dM rfl ?_);(first|refine eP 0 HS HS.q.bM ?_|refine eP 1 HS HS.q.bM ?_);intro w1 HT;replace HS:=HT;clear HT;simp only[List.set]at HS))
 all_goals first|exact bodyPost_ret (gT rfl _ _ g4 27 c9 (0,0) _ rfl (HS.bx _ (.tail _ (.head _))).2.2 Tryz.underlying27 rfl (by rw[Tryz.fZ,HS.q.size])) rfl ⟨c9,rfl,HS.rf⟩|exact bodyPost_ret (gT rfl _ _ g4 27 _ (0,0) _ rfl (HS.bx _ (.tail _ (.head _))).2.2 Tryz.underlying27 rfl (by rw[Tryz.fZ];rfl)) rfl ⟨_,rfl,(HS.imp (fun _ h=>h.fr)).rf⟩
end Go.Proofs.YtingkpnoiekliaaGreat.MZ
end
section
namespace Go.Proofs.YtingkpnoiekliaaGreat.MZ
open Go.RowKit Go.Proofs.YtingkpnoiekliaaGreatW.PrintWords Go.Proofs.YtingkpnoiekliaaGreatW.PrintLast Go.Proofs.YtingkpnoiekliaaGreatW.PrintMore Go.Proofs.YtingkpnoiekliaaGreat.MWords Go.Proofs.YtingkpnoiekliaaGreat.MZ
set_option linter.unusedVariables false
set_option linter.unusedSimpArgs false
abbrev dn (nm:ByteArray):Prop:=nm ∈ tL
abbrev pK:Array Value:=#[.slice none 0 0,.slice none 0 0,.slice none 0 0,.int .i64 0]
theorem ag2:Gd dn 0 ⟨[],[],[],1⟩:=
 ⟨⟨⟨by decide,by decide⟩,⟨List.Pairwise.nil,by simp⟩,by decide,⟨by decide,by simp,List.Pairwise.nil,List.Pairwise.nil⟩,⟨by decide,by simp,List.Pairwise.nil,List.Pairwise.nil⟩⟩,by decide,by simp,by simp,fun x hx=>by simp at hx⟩
set_option maxHeartbeats 8000000 in
set_option maxRecDepth 100000 in
theorem U7 {w0 w:World} {g:Nat} (n:Int) (hC:jS w0 w g) (hB:Below w0.heap.size w0 w) (hn:n≤1000):Calls Tryz.prog 56 #[.pointer (some ⟨g,0,none⟩),.int .i64 n] w (fun e w'=>∃cs d,e = .returned (.agg cs)∧Gd dn (9*n.toNat) d∧Foot (Fd w.heap.size cs d) w' (fun k=>w.heap.size≤k)∧Cm w0 w w' g):=by
 have HS:=Sd.start hC hB;clear hC hB;go_enter Tryz.func56,Tryz.ntmps56;go_wp2_with (first|((with_reducible refine aM (N:=4) rfl ?_);refine bg 4 pK 27 ?_;intro g4 hg w1 hx hb;replace HS:=HS.box hg hx hb rfl;clear hb hx hg)|((with_reducible refine aH (f:=92) rfl ?_);refine bz Tryz.func92 al9 ?_;rintro e w2 ⟨c1,rfl,hR⟩;refine⟨_,rfl,?_⟩;replace HS:=(HS.call hR.2 hR.1).imp (fun _ h=>Fr.low h.2 HS.kb.1);clear hR)|((with_reducible refine aM (N:=5) rfl ?_);refine bg 5 pK 27 ?_;intro g5 hg w3 hx hb;replace HS:=HS.box hg hx hb rfl;clear hb hx hg)|((with_reducible refine dM rfl ?_);refine pT 0 HS HS.q.bM ?_;intro w4 HT;replace HS:=HT;clear HT;simp only[List.set]at HS)|((with_reducible refine aH (f:=59) rfl ?_);refine bz Tryz.func59 (yw n HS.cu HS.st.be) ?_;rintro e w5 ⟨x,rfl,hx,hc⟩;refine⟨_,rfl,?_⟩;replace HS:=HS.draw hc;clear hc));obtain⟨N,rfl⟩:=Int.eq_ofNat_of_zero_le hx.1;have hN:9*N≤9*n.toNat:=by have:=hx.2.1;have:=hx.2.2;omega
 clear hx;go_loopg [6] N (fun kq v6 w'=>∃(x6:Int) (cs:Array Value) (d:Dk),v6 = .int .i64 x6∧Aside0 (x6=(kq:Int)∧kq≤N)∧Aside0 (Gd dn (9*(N-kq)) d)∧Sd w0 w g [(g5,cs),(g4,pK)] (Fd w.heap.size cs d) w')
 case atStart=>exact⟨_,_,_,rfl,⟨rfl,Nat.le_refl _⟩,⟨ag2.more (Nat.zero_le _)⟩,HS⟩
 case round=>
  clear HS;obtain⟨x6,cs,d,rfl,hk,hG,HS⟩:=hrel;cases gk with
  |zero=>
   have hz:decide (0<x6)=false:=decide_eq_false (by have:=hk.1.1;omega);go_wp2_with (first|(refine br 0 HS.st ?_)|((with_reducible refine dM rfl ?_);refine pT 1 HS HS.q.bM ?_;intro w4 HT;replace HS:=HT;clear HT;simp only[List.set]at HS));exact bodyPost_ret (results_cell_row rfl _ _ g4 27 cs (0,0) _ rfl (HS.st.bx _ (.tail _ (.head _))).2.2 Tryz.underlying27 rfl (by rw[Tryz.fZ,HS.q.size])) rfl ⟨cs,d,rfl,hG.1.more (by have:=hk.1.1;omega),HS.st.ft.mono (fun k hk=>by simpa using hk.1),HS.cu,HS.st.be,HS.kb⟩
  |succ k1=>
   have hz:decide (0<x6)=true:=decide_eq_true (by have:=hk.1.1;omega);go_wp2_with (first|((with_reducible refine aH (f:=57) rfl ?_);refine bz Tryz.func57 (MW HS.cu HS.st.be) ?_;rintro e w5 ⟨nm,rfl,hnm,hc⟩;refine⟨_,rfl,?_⟩;replace HS:=HS.draw hc;clear hc)|((with_reducible refine aH (f:=59) rfl ?_);refine bz Tryz.func59 (yw 10 HS.cu HS.st.be) ?_;rintro e w5 ⟨x,rfl,hx,hc⟩;refine⟨_,rfl,?_⟩;replace HS:=HS.draw hc;clear hc;have hv:x=0∨x=1∨x=2∨x=3∨x=4∨x=5∨x=6∨x=7∨x=8∨x=9:=(by have:=hx.1;have:=hx.2.1 (by decide);omega);clear hx;rcases hv with rfl|rfl|rfl|rfl|rfl|rfl|rfl|rfl|rfl|rfl)|(refine br 0 HS.st ?_)|((with_reducible refine aH (f:=58) rfl ?_);refine bz Tryz.func58 (P1 HS.q.bM hG.1.ok.small.1 (qV hnm)) ?_;rintro e w6 ⟨c2,rfl,hR⟩;refine⟨_,rfl,?_⟩;replace HS:=(HS.call hR.2 hR.1).imp (fun _ h=>Fr.low h.2 HS.kb.1);clear hR;replace hG:=J (hG.1.create hnm))|((with_reducible refine aH (f:=62) rfl ?_);refine bz Tryz.func62 (P4 HS.q.bM hG.1.ok.small.1 (qV hnm)) ?_;rintro e w6 ⟨c2,rfl,hR⟩;refine⟨_,rfl,?_⟩;replace HS:=(HS.call hR.2 hR.1).imp (fun _ h=>Fr.low h.2 HS.kb.1);clear hR;replace hG:=J (hG.1.sync (nm:=nm)))|((with_reducible refine aH (f:=63) rfl ?_);refine bz Tryz.func63 (P5 HS.q.bM hG.1.ok.small.1) ?_;rintro e w6 ⟨c2,rfl,hR⟩;refine⟨_,rfl,?_⟩;replace HS:=(HS.call hR.2 hR.1).imp (fun _ h=>Fr.low h.2 HS.kb.1);clear hR;replace hG:=J (hG.1.BF))|((with_reducible refine aH (f:=76) rfl ?_);refine bz Tryz.func76 (Y9 HS.q.bM hG.1.ok.small.1 (qV hnm)) ?_;rintro e w6 ⟨c2,rfl,hR⟩;refine⟨_,rfl,?_⟩;replace HS:=(HS.call hR.2 hR.1).imp (fun _ h=>Fr.low h.2 HS.kb.1);clear hR;replace hG:=J (hG.1.remove (nm:=nm)))|((with_reducible refine dM rfl ?_);refine pT 0 HS HS.q.bM ?_;intro w4 HT;replace HS:=HT;clear HT;simp only[List.set]at HS))
   all_goals (first|(refine ez (n:=9) (S:=fun W=>W.heap[g5]? = some (.cells cs 27 (0,0))) (ds:=[8]) (mb 0 9) (by kernel_rfl) rfl rfl (HS.st.bx _ (.head _)).2.2 (fun hh=>?_);replace HS:=HS.drew;refine rP 1 (mr [0,1,1,7]) ?_;refine rP 2 (mr [0,1,2,6]) ?_;refine rL 0 (mb 3 6) hh (fun _ h=>h) (HS.st.bx _ (.head _)).2.1 ?_;refine rC 3 (mb 4 5) Tryz.func61 (HJ HS.cu HS.st.be) ?_;rintro e w6 ⟨A,c,l,rfl,hl,hc,hF,hm⟩;replace HS:=HS.AF hm hF;refine⟨_,rfl,(HS.st.bx _ (.head _)).2.2,fun hh=>rN ?_⟩;refine rC 4 (mb 5 4) Tryz.func65 (J4 HS.q.1.bM hG.1.ok.small.1 (qV hnm) hG.1.ok.small.2 (Nat.le_trans hl.2 (by decide)) HS.q.2 hc) ?_;rintro e w7 ⟨c2,rfl,hR⟩;replace HS:=(HS.call hR.2 hR.1).imp (fun _ h=>Fr.low h.2 HS.kb.1);replace hG:=J ((hG.1.append (nm:=nm) l hl.1).more (m':=9*(N-k1)) (by have:=hk.1;have:=hl.2;omega));refine⟨_,rfl,(HS.st.bx _ (.head _)).2.2,fun hh=>rN ?_⟩;refine rP 5 (mb 6 3) ?_;refine rP 6 (mb 7 2) ?_;refine rP 7 (mb 8 1) ?_;refine rS 8 (mb 9 0) (HS.st.bx _ (.head _)).2.2 (HS.st.bx _ (.head _)).2.1 HS.q.bM ?_;replace HS:=HS.set 0 rfl HS.q.size;simp only[List.set]at HS;refine eM (by kernel_rfl) ?_)|(refine ez (n:=9) (S:=fun W=>W.heap[g5]? = some (.cells cs 27 (0,0))) (ds:=[8]) (mb 0 9) (by kernel_rfl) rfl rfl (HS.st.bx _ (.head _)).2.2 (fun hh=>?_);replace HS:=HS.drew;refine rP 1 (mr [0,1,1,7]) ?_;refine rP 2 (mr [0,1,2,6]) ?_;refine rL 0 (mb 3 6) hh (fun _ h=>h) (HS.st.bx _ (.head _)).2.1 ?_;refine rC 3 (mb 4 5) Tryz.func57 (MW HS.cu HS.st.be) ?_;rintro e w6 ⟨nq,rfl,hq,hm⟩;replace HS:=HS.draw hm;refine⟨_,rfl,(HS.st.bx _ (.head _)).2.2,fun hh=>rN ?_⟩;refine rC 4 (mb 5 4) Tryz.func77 (Za HS.q.bM hG.1.ok.small.1 (qV hnm) (qV hq)) ?_;rintro e w7 ⟨c2,rfl,hR⟩;replace HS:=(HS.call hR.2 hR.1).imp (fun _ h=>Fr.low h.2 HS.kb.1);replace hG:=J (hG.1.rename (nm:=nm) hq);refine⟨_,rfl,(HS.st.bx _ (.head _)).2.2,fun hh=>rN ?_⟩;refine rP 5 (mb 6 3) ?_;refine rP 6 (mb 7 2) ?_;refine rP 7 (mb 8 1) ?_;refine rS 8 (mb 9 0) (HS.st.bx _ (.head _)).2.2 (HS.st.bx _ (.head _)).2.1 HS.q.bM ?_;replace HS:=HS.set 0 rfl HS.q.size;simp only[List.set]at HS;refine eM (by kernel_rfl) ?_)|(refine ez (n:=5) (S:=fun W=>W.heap[g5]? = some (.cells cs 27 (0,0))) (ds:=[4]) (mb 0 5) (by kernel_rfl) rfl rfl (HS.st.bx _ (.head _)).2.2 (fun hh=>?_);replace HS:=HS.drew;refine rP 1 (mr [0,1,1,3]) ?_;refine rL 0 (mb 2 3) hh (fun _ h=>h) (HS.st.bx _ (.head _)).2.1 ?_;refine rC 2 (mb 3 2) Tryz.func59 (yw 4 HS.cu HS.st.be) ?_;rintro e w6 ⟨x,rfl,hx,hm⟩;replace HS:=HS.draw hm;refine⟨_,rfl,(HS.st.bx _ (.head _)).2.2,fun hh=>rN ?_⟩;refine rC 3 (mb 4 1) Tryz.func64 (Y5 (keep:=x) HS.q.bM hG.1.ok.small.1 hG.1.ok.small.2 (by have:=hx.2.1 (by decide);omega)) ?_;rintro e w7 ⟨c2,rfl,hR⟩;replace HS:=(HS.call hR.2 hR.1).imp (fun _ h=>Fr.low h.2 HS.kb.1);replace hG:=J (hG.1.UG hx.1);clear hx;refine⟨_,rfl,(HS.st.bx _ (.head _)).2.2,fun hh=>rN ?_⟩;refine rS 4 (mb 5 0) (HS.st.bx _ (.head _)).2.2 (HS.st.bx _ (.head _)).2.1 HS.q.bM ?_;replace HS:=HS.set 0 rfl HS.q.size;simp only[List.set]at HS;refine eM (by kernel_rfl) ?_)|skip)
   all_goals (try go_wp2)
   all_goals
    go_roundg k1
    case measure=>omega
    case rel=>exact⟨wrap64 (x6-1),_,_,mE,⟨by unfold wrap64;have:=hk.1;omega,by have:=hk.1;omega⟩,⟨hG.1.more (by have:=hk.1;omega)⟩,HS⟩
end Go.Proofs.YtingkpnoiekliaaGreat.MZ
end
section
namespace Go.Proofs.YtingkpnoiekliaaGreat.MZ
open Go.RowKit Go.Proofs.YtingkpnoiekliaaGreatW.PrintWords Go.Proofs.YtingkpnoiekliaaGreatW.PrintLast Go.Proofs.YtingkpnoiekliaaGreatW.PrintMore Go.Proofs.YtingkpnoiekliaaGreat.MWords Go.Proofs.YtingkpnoiekliaaGreat.MZ
set_option linter.unusedVariables false
set_option linter.unusedSimpArgs false
section
variable {w:World} {A:Option Addr} {c:Nat} {l:List Int}
theorem U2 (hr:Kd.C (Kd.int .u8) w A l.length l) (hc:l.length≤c):Calls Tryz.prog 5 #[.slice A l.length c] w (fun e w'=>e = .returned (.bool (decide ((l.length:Int)>1048576)))∧Below w.heap.size w w'):=
 (JD.calls A c l _ w hr hc (aeI l)).mono (fun e w' ⟨he,m,hd⟩=>⟨he,by subst hd;exact ff (Below.refl _ _) m⟩)
theorem Vp {A':Option Addr} {c':Nat} (hr:Kd.C (Kd.int .u8) w A l.length l) (hc:l.length≤c) (hr':Kd.C (Kd.int .u8) w A' l.length l) (hc':l.length≤c') (hl:l.length≤1048576):Calls Tryz.prog 12 #[.slice A l.length c,.slice A' l.length c'] w (fun e w'=>e = .returned (.bool true)∧Below w.heap.size w w'):=by
 obtain⟨K,hk⟩:=amf l hl;exact(oT.calls K A c l A' c' l true w hr hc hr' hc' (hk K (Nat.le_refl _))).mono (fun e w' ⟨he,m,hd⟩=>⟨he,by subst hd;exact ff (Below.refl _ _) m⟩)
end
theorem nX {n:Nat}:∀k,n≤k→¬(fun _:Nat=>False) k:=fun _ _ h=>h
end Go.Proofs.YtingkpnoiekliaaGreat.MZ
end
section
set_option linter.unusedVariables false
set_option linter.unusedSimpArgs false
namespace Go.Proofs.YtingkpnoiekliaaGreat.MZ
open Go.RowKit Go.Proofs.YtingkpnoiekliaaGreat.MZ Go.Proofs.YtingkpnoiekliaaGreatW.PrintWords Go.Proofs.YtingkpnoiekliaaGreatW.PrintLast Go.Proofs.YtingkpnoiekliaaGreatW.PrintMore
def Mt:List ByteArray:=[(⟨#[]⟩:ByteArray),(⟨#[65]⟩:ByteArray),(⟨#[116,104,105,114,116,101,101,110,45,108,111,110,103]⟩:ByteArray),(⟨#[116,119,101,108,118,101,45,108,111,110,103,49]⟩:ByteArray),(⟨#[97,32,98]⟩:ByteArray)]
theorem aeE (b:List Int) (i x:Int) (hb:b.length≤1048576) (hi:At b i):∃v j y,F3.f b i x=some (v,j,y)∧v.size≤13∧At b j:=by
 obtain⟨o,j,y,e,_,_,_,hj⟩:=FP b i x 12 hb hi;unfold F3.f vw.f;simp only[e,Option.bind_some];by_cases h:(o == 0)=true
 ·obtain⟨v,j2,y2,e2,hm,mz⟩:=Ym b j y Mt hb hj (by decide);refine⟨v,j2,y2,?_,?_,mz⟩
  ·rw[if_pos h];show (pR.f b j y Mt).bind _=_;rw[e2];rfl
  ·simp only[Mt,List.mem_cons,List.not_mem_nil,or_false]at hm
   rcases hm with rfl|rfl|rfl|rfl|rfl<;>decide
 ·obtain⟨v,j2,y2,e2,hm,mz⟩:=Uw b j y hb hj;refine⟨v,j2,y2,?_,?_,mz⟩
  ·rw[if_neg h,e2];rfl
  ·simp only[tL,List.mem_cons,List.not_mem_nil,or_false]at hm
   rcases hm with rfl|rfl|rfl|rfl|rfl|rfl<;>decide
def Sm (d:ik):Prop:=Small d.f0 d.f1 d.f2∧(∀x ∈ d.f0,x.f1.length≤1048576)∧Bd d.f0
variable {d:ik}
theorem Sm.next (h:Sm d) (x:Int):Sm ⟨d.f0,d.f1,d.f2,x⟩:=h
theorem Sm.none (h:Sm d):Sm ⟨d.f0,d.f1,[],d.f3⟩:=⟨⟨h.1.h0,h.1.hd,h.1.h1,by simp,h.1.z1,by simp⟩,h.2⟩
theorem Gd.sm {P:ByteArray→Prop} {m:Nat} (h:Gd P m d):Sm d:=⟨h.ok.small.1,h.ok.small.2,h.bb⟩
theorem Sm.name {P:ByteArray→Prop} {m:Nat} (hG:Gd P m d) {nm:ByteArray} (hn:nm.size≤13) (x:Int):Sm ⟨d.f0,d.f1++[⟨nm,x⟩],d.f2,d.f3⟩:=by
 have hs:=hG.sm;refine⟨⟨hs.1.h0,hs.1.hd,?_,hs.1.h2,fun e he=>?_,hs.1.z2⟩,hs.2⟩
 ·have:=hG.ok.e1.1;rw[List.length_append];simp only[List.length_singleton];omega
 ·rcases List.mem_append.1 he with he|he
  ·exact hs.1.z1 e he
  ·rw[List.mem_singleton.1 he];exact Nat.le_trans hn (by decide)
theorem Sm.sure (h:Sm d) (x:Int):Sm ⟨d.f0.set 0 ⟨(ae d.f0 0).f0,(ae d.f0 0).f1,x⟩,d.f1,d.f2,d.f3⟩:=by
 have hm:∀n,0≤n→(∀x ∈ d.f0,x.f1.length≤n)→∀y ∈ d.f0.set 0 ⟨(ae d.f0 0).f0,(ae d.f0 0).f1,x⟩,y.f1.length≤n:=fun n hn ha y hy=>by
  rcases List.mem_or_eq_of_mem_set hy with hy|rfl
  ·exact ha y hy
  ·rcases Nat.eq_zero_or_pos d.f0.length with h0|h0
   ·rw[List.eq_nil_of_length_eq_zero h0];exact hn
   ·have e:ae d.f0 0=d.f0[0]:=tX h0;show (ae d.f0 0).f1.length≤n;rw[e];exact ha _ (List.getElem_mem h0)
 refine⟨⟨by rw[List.length_set];exact h.1.h0,hm _ (by decide) h.1.hd,h.1.h1,h.1.h2,h.1.z1,h.1.z2⟩,hm _ (by decide) h.2.1,fun y hy=>?_⟩
 rcases List.mem_or_eq_of_mem_set hy with hy|rfl
 ·exact h.2.2 y hy
 ·rcases Nat.eq_zero_or_pos d.f0.length with h0|h0
  ·rw[List.eq_nil_of_length_eq_zero h0];exact bJ.nil
  ·have e:ae d.f0 0=d.f0[0]:=tX h0;show bJ (ae d.f0 0).f1;rw[e];exact h.2.2 _ (List.getElem_mem h0)
end Go.Proofs.YtingkpnoiekliaaGreat.MZ
end
section
namespace Go.Proofs.YtingkpnoiekliaaGreat.MZ
open Go.RowKit Go.Proofs.YtingkpnoiekliaaGreatW.PrintWords Go.Proofs.YtingkpnoiekliaaGreatW.PrintLast Go.Proofs.YtingkpnoiekliaaGreatW.PrintMore Go.Proofs.YtingkpnoiekliaaGreat.MWords Go.Proofs.YtingkpnoiekliaaGreat.MZ
set_option linter.unusedVariables false
set_option linter.unusedSimpArgs false
theorem Yd {W:World} {b0 b1 b2:Nat} {p0 p1 p2:Nat→Prop} {v0 v1 v2:Value} {U:List aj} {l1 l2:List ab} {n:Int} (h0:Kd.N bf 63 W b0 p0 v0 U) (h1:Kd.R ak 89 W b1 p1 v1 l1) (h2:Kd.R ak 89 W b2 p2 v2 l2):cH #[v0,v1,v2,.int .i64 n] ⟨U,l1,l2,n⟩ W:=by
 obtain⟨A0,c0,rfl⟩:=Kd.oG h0;obtain⟨A1,c1,rfl,e1,g1⟩:=Kd.lT h1;obtain⟨A2,c2,rfl,e2,g2⟩:=Kd.lT h2;have e0:=Kd.iI h0;exact tR W ⟨U,l1,l2,n⟩ e0.2.1 e0.2.2 e1 g1 e2 g2
section
variable {w0 we w w1:World} {bs:List (Nat × Array Value)} {Q Q':World→Prop} {g gb:Nat} {cs:Array Value} {u:Value}
theorem Sd.J9 (h:Sd w0 we g bs Q w) (i j:Nat) (u:Value) (hi:bs[i]? = some (gb,cs)):Sd w0 we g (bs.set i (gb,cs.setIfInBounds j u)) Q (w.setCell ⟨gb,j,none⟩ u):=by
 have hb:=(h.st.bx _ (List.mem_of_getElem? hi)).2;have h1:=h.set i hi (cs':=cs.setIfInBounds j u) (by rw[Array.size_setIfInBounds];exact hb.1)
 rwa [←setCell_eq_setRow w gb j cs _ (0,0) u hb.2]at h1
theorem Sd.grown (h:Sd w0 we g bs Q w) {row:Option Nat} (hg:w.grownBy w1 row) (hb:Below we.heap.size w w1) (hr:∀b ∈ bs,some b.1≠row) (hq:Foot Q' w1 (fun k=>¬k<we.heap.size∧∀b ∈ bs,b.1≠k)):Sd w0 we g bs Q' w1:=
 ⟨⟨TJ h.st.be h.hw hb,hq,fun b hm=>⟨(h.st.bx b hm).1,(h.st.bx b hm).2.1,(hg.block _ (fR (h.st.bx b hm).2.2) (hr b hm)).trans (h.st.bx b hm).2.2⟩,h.st.nd⟩,h.cu.keep (hb.block g h.hg),⟨Nat.le_trans h.kb.1 hg.size,fun i hi h1 h2=>(hb.block i hi).trans (h.kb.2 i hi h1 h2)⟩,h.hg,h.hw,h.hb⟩
end
section
variable {ops:Array Oper} {rest:List Oper} {o:Oper} {a:Act} {K:Exit→Act→World→Prop} {w0 we w:World} {bs:List (Nat × Array Value)} {Q:World→Prop} {g gb:Nat} {cs:Array Value} {u:Value} {t:TypeId} {p:Tmp} {x:Operand}
theorem uFe (i j:Nat) (HS:Sd w0 we g bs Q w) (h:∀w1,Sd w0 we g (bs.set i (gb,cs.setIfInBounds j u)) Q w1→wpList Tryz.prog ops K rest a w1) (hi:bs[i]? = some (gb,cs):=by rfl) (ho:o.op = .store t (.tmp p) x:=by rfl) (he:a.eval (.tmp p) = .pointer (some ⟨gb,j,none⟩):=by rfl) (hx:a.eval x=u:=by rfl) (hj:j<4:=by decide) (hN:o.dst=none:=by rfl) (hg:o.guard=none:=by rfl)
 (hrun:∀(W:World) (y:Value),W.cell? ⟨gb,j,none⟩=some y→W.frozen? ⟨gb,j,none⟩=false→(execOp a.eval o).run Tryz.prog W = .ok .skip (W.setCell ⟨gb,j,none⟩ u):=by intro W y hc hf;first|(go_simp;done)|(go_simp;rfl)):wpList Tryz.prog ops K (o::rest) a w:=by
 have hb:=(HS.st.bx _ (List.mem_of_getElem? hi)).2;have hjs:j<cs.size:=by rw[hb.1];exact hj
 exact Ke hg ho hN (hrun w cs[j] ((cell_of_row w gb j cs _ _ hb.2).trans (by simp[hjs])) (dL hb.2 j)) (fun w' e=>h w' (e▸HS.J9 i j u hi))
theorem YZ {W:World} {base:Nat} {okp:Nat→Prop} (l:List Int):ba (Kd.M (Kd.int .i64) W base okp) 1 l (l.map (Value.int .i64)):=⟨by simp,fun j p hj=>by
 show _=[Value.int .i64 p];have hl:=(List.getElem?_eq_some_iff.1 hj).1;rw[Nat.mul_one];refine List.ext_getElem? (fun i=>?_)
 rcases i with _|i
 ·simp[hj]
 ·simp;omega⟩
abbrev Ri (w w1:World) (A:Option Addr) (c:Nat) (l:List Int):Prop:=Kd.R (Kd.int .i64) 3 w1 w.heap.size (fun _=>True) (.slice A l.length c) l
theorem am5 (l:List Int) (h:∀A c w1,Ri w w1 A c l→Below w.heap.size w w1→wpList Tryz.prog ops K rest (a.put o.dst (.slice A l.length c)) w1) {n:Tmp} (hg:o.guard=none:=by rfl) (hd:o.dst=some n:=by rfl)
 (hr:(execOp a.eval o).run Tryz.prog w = .ok (.value (.slice (some ⟨w.heap.size,0,none⟩) l.length l.length)) (w.alloc (.cells (l.map (Value.int .i64)).toArray 3)):=by first|(go_simp;done)|(go_simp;rfl)) (hm:l.length≤9223372036854775807:=by simp):wpList Tryz.prog ops K (o::rest) a w:=
 Kd.jc (Kd.int .i64) w.heap.size 3 hg hd (xs:=l) (ok:=fun _=>True) (okp:=fun _=>True) hr (YZ l) (fun _ h=>h) trivial (Below.refl _ _) (Nat.le_refl _) hm (fun v1 w1 hR hb _ _=>by
  obtain⟨A,c,rfl⟩:=Kd.bU hR;exact h A c w1 hR hb)
end
section
variable {md:Region.Mode} {ops:Array Oper} {Q:Exit→Act→World→Prop} {S:World→Prop} {ds:List Nat} {oi:Oper} {fuel:Nat} {L:Array Bool} {a:Act} {w:World}
theorem rI (i:Nat) {n:Tmp} (l:List Int) (l':Array Bool)
 (h:∀A c w1,Ri w w1 A c l→Below w.heap.size w w1→S w1∧(S w1→ck Tryz.prog md ops Q S ds fuel l' (a.put (some n) (.slice A l.length c)) w1))
 (hi:ops[i]? = some oi:=by exact rfl) (hN:oi.dst=some n:=by exact rfl) (hk:rm md ops L l' i=true:=by kernel_rfl) (hd:i ∉ ds:=by decide) (hw:Region.wanted oi (yielded ops a.tmps)=true:=by rfl)
 (hr:(execOp a.eval oi).run Tryz.prog w = .ok (.value (.slice (some ⟨w.heap.size,0,none⟩) l.length l.length)) (w.alloc (.cells (l.map (Value.int .i64)).toArray 3)):=by first|(go_simp;done)|(go_simp;rfl)) (hm:l.length≤9223372036854775807:=by simp):ck Tryz.prog md ops Q S ds (fuel+1) L a w:=
 xb l' hi hN hk hd (fun K hK=>by
  have:=Kd.qP (Q:=Q) (Kc:=K) (Kd.int .i64) w.heap.size 3 hw hN (xs:=l) (ok:=fun _=>True) (okp:=fun _=>True) hr (YZ l) (fun _ h=>h) trivial (Below.refl _ _) (Nat.le_refl _) hm (fun v1 w1 hR hb _ _=>by
   obtain⟨A,c,rfl⟩:=Kd.bU hR;have:=h A c w1 hR hb;rw[hN];exact hK _ _ this.1 this.2)
  rwa [hN]at this)
theorem rD (i:Nat) {ad:Addr} {rk u:Value} {t:TypeId} {p:Tmp} {x:Operand} (l':Array Bool) (hc:w.cell? ad=some rk) (hf:w.frozen? ad=false) (h:ck Tryz.prog md ops Q S ds fuel l' a (w.setCell ad u)) (hi:ops[i]? = some oi:=by exact rfl) (ho:oi.op = .store t (.tmp p) x:=by rfl) (he:a.eval (.tmp p) = .pointer (some ad):=by rfl) (hx:a.eval x=u:=by rfl) (hN:oi.dst=none:=by exact rfl) (hk:rm md ops L l' i=true:=by kernel_rfl) (hd:i ∈ ds:=by decide)
 (hw:Region.wanted oi (yielded ops a.tmps)=true:=by rfl) (hrun:∀(W:World) (y:Value),W.cell? ad=some y→W.frozen? ad=false→(execOp a.eval oi).run Tryz.prog W = .ok .skip (W.setCell ad u):=by intro W y hc hf;first|(go_simp;done)|(go_simp;rfl)):ck Tryz.prog md ops Q S ds (fuel+1) L a w:=
 vm l' hi hN hk hd (fun K hK=>oW hw hN (hrun w rk hc hf) (hK _ _ h))
end
section
variable {w0 w:World} {g:Nat}
theorem afB (hC:jS w0 w g) (hB:Below w0.heap.size w0 w):Calls Tryz.prog 67 #[.pointer (some ⟨g,0,none⟩)] w (fun e w'=>∃v,e = .returned (.string v)∧v.size≤13∧Cm w0 w w' g):=by
 obtain⟨b,i,h,hI,hl,hi⟩:=hC;obtain⟨v,j,y,e,hm,hj⟩:=aeE b i h hl hi;exact(F3.calls g b i h v j y w0 w hI hB e).mono (fun e w' ⟨he,hI',hB',hk⟩=>⟨v,he,hm,⟨b,j,y,hI',hl,hj⟩,hB',hk⟩)
theorem Uv {we:World} {A:Option Addr} {c:Nat} {l:List Int} (hr:Ri we w A c l) (hg:g<we.heap.size) (hl:0<l.length) (hC:jS w0 w g) (hB:Below w0.heap.size w0 w):Calls Tryz.prog 66 #[.pointer (some ⟨g,0,none⟩),.slice A l.length c] w (fun e w'=>∃v,e = .returned (.int .i64 v)∧Cm w0 w w' g):=by
 obtain⟨b,i,h,hI,hb,hi⟩:=hC;obtain⟨v,j,y,e,hm,hj⟩:=Yl b i h l hb hi hl;have hd:=Kd.bG hr;exact(vv.calls g b i h A c l v j y w0 w hI hB hd.2.2 hd.2.1 (H2 (fun e=>by have:=Kd.fB hr g e.symm;omega)) e).mono (fun e w' ⟨he,hI',hB',hk⟩=>⟨v,he,⟨b,j,y,hI',hb,hj⟩,hB',hk⟩)
end
end Go.Proofs.YtingkpnoiekliaaGreat.MZ
end
section
namespace Go.Proofs.YtingkpnoiekliaaGreat.MZ
open Go.RowKit Go.Proofs.YtingkpnoiekliaaGreatW.PrintWords Go.Proofs.YtingkpnoiekliaaGreatW.PrintLast Go.Proofs.YtingkpnoiekliaaGreatW.PrintMore Go.Proofs.YtingkpnoiekliaaGreat.MWords Go.Proofs.YtingkpnoiekliaaGreat.MZ
set_option linter.unusedVariables false
set_option linter.unusedSimpArgs false
theorem Sd.made {w0 we w w1:World} {bs:List (Nat × Array Value)} {Q:World→Prop} {g:Nat} {cs:Array Value} {d:Dk} (h:Sd w0 we g bs Q w) (hc:Cm w0 w w1 g) (hF:Foot (Fd w.heap.size cs d) w1 (fun k=>w.heap.size≤k)):∃lo hi,Aside0 (we.heap.size≤lo∧lo≤hi)∧Aside0 (∀b ∈ bs,b.1<lo)∧Aside0 (hi≤w1.heap.size)∧Sd w0 we g bs (Fr we.heap.size (fun k=>lo≤k∧k<hi) cs d) w1:=
 ⟨w.heap.size,w1.heap.size,⟨h.kb.1,hc.2.2.1⟩,⟨fun b hm=>fR (h.st.bx b hm).2.2⟩,⟨Nat.le_refl _⟩,(h.AF hc ((Fr.wD (Fr.rk hF.now)).mono (fun k hk=>hk.1))).imp (fun _ g=>g.2.mono h.kb.1 (fun _ h=>h))⟩
section
variable {b:Nat} {ok:Nat→Prop} {v0 v1 v2:Value} {y:Int} {d:Dk} {W:World}
theorem Fr.next (h:Fr b ok #[v0,v1,v2,.int .i64 y] d W) (x:Int):cH #[v0,v1,v2,.int .i64 x] ⟨d.f0,d.f1,d.f2,x⟩ W:=by
 obtain⟨u0,u1,u2,e,h0,h1,h2⟩:=h;simp only[Array.mk.injEq,List.cons.injEq]at e;obtain⟨rfl,rfl,rfl,_⟩:=e;exact Yd h0 h1 h2
theorem Fr.none (h:Fr b ok #[v0,v1,v2,.int .i64 y] d W):cH #[v0,v1,.slice none 0 0,.int .i64 y] ⟨d.f0,d.f1,[],y⟩ W:=by
 obtain⟨u0,u1,u2,e,h0,h1,h2⟩:=h;simp only[Array.mk.injEq,List.cons.injEq]at e;obtain⟨rfl,rfl,rfl,_⟩:=e;exact Yd (b2:=0) (p2:=fun _=>True) h0 h1 (Kd.lS _ _ _ _ _)
end
theorem Kv {a b:Nat} {c d:Array Value} {P:Nat→Prop} (ha:P a) (hb:P b):∀x ∈ [(a,c),(b,d)],P x.1:=fun x hm=>by
 rcases List.mem_cons.1 hm with rfl|hm
 ·exact ha
 ·rcases List.mem_cons.1 hm with rfl|hm
  ·exact hb
  ·exact absurd hm (by simp)
set_option maxHeartbeats 8000000 in
set_option maxRecDepth 100000 in
theorem ag6 {w0 w:World} {g:Nat} (n:Int) (hC:jS w0 w g) (hB:Below w0.heap.size w0 w) (hn:n≤1000):Calls Tryz.prog 25 #[.pointer (some ⟨g,0,none⟩),.int .i64 n] w (fun e w'=>∃cs d,e = .returned (.agg cs)∧Sm d∧Foot (cH cs d) w' (fun k=>w.heap.size≤k)∧Cm w0 w w' g):=by
 have HS:=Sd.start hC hB;clear hC hB;go_enter Tryz.func25,Tryz.ntmps25;go_wp2_with (first|((with_reducible refine aM (N:=4) rfl ?_);refine bg 4 pK 27 ?_;intro g4 hg w1 hx hb;replace HS:=HS.box hg hx hb rfl;clear hb hx hg)|((with_reducible refine aH (f:=56) rfl ?_);refine bz Tryz.func56 (U7 n HS.cu HS.st.be hn) ?_;rintro e w5 ⟨cs,d,rfl,hG,hF,hm⟩;obtain⟨lo,hi,h1,h2,h3,HT⟩:=HS.made hm hF;replace HS:=HT;replace hG:=J hG;clear HT hm hF;obtain⟨v0,v1,v2,rfl,Xm,_⟩:=HS.q;obtain⟨A0,c0,rfl⟩:=Kd.oG Xm;clear Xm;refine⟨_,rfl,?_⟩)|((with_reducible refine aM (N:=5) rfl ?_);refine bg 5 pK 27 ?_;intro g5 hg w3 hx hb;have h5:=J (Nat.le_trans h3.1 (Nat.le_of_eq hg.symm));replace HS:=HS.box hg hx hb rfl;clear hb hx hg h3)|((with_reducible refine dM rfl ?_);refine pT 0 HS HS.q.bM ?_;intro w4 HT;replace HS:=HT;clear HT;simp only[List.set]at HS)|((with_reducible refine aH (f:=59) rfl ?_);refine bz Tryz.func59 (yw 12 HS.cu HS.st.be) ?_;rintro e w6 ⟨x,rfl,hx,hm⟩;refine⟨_,rfl,?_⟩;replace HS:=HS.draw hm;clear hm;have hv:x=0∨x=1∨x=2∨x=3∨x=4∨x=5∨x=6∨x=7∨x=8∨x=9∨x=10∨x=11:=(by have:=hx.1;have:=hx.2.1 (by decide);omega);clear hx;rcases hv with rfl|rfl|rfl|rfl|rfl|rfl|rfl|rfl|rfl|rfl|rfl|rfl)|((with_reducible refine aM (N:=14) rfl ?_);have hgl:=HS.cu.lt;refine am5 [0,1,1000000,1000001] ?_;intro A c w7 hR hb;replace HS:=HS.below hb;clear hb)|((with_reducible refine aH (f:=66) rfl ?_);refine bz Tryz.func66 (Uv hR hgl (by decide) HS.cu HS.st.be) ?_;rintro e w8 ⟨y,rfl,hm⟩;refine⟨_,rfl,?_⟩;replace HS:=HS.draw hm;clear hm hR hgl)|((with_reducible refine dM rfl ?_);refine uFe 0 3 HS ?_;intro w9 HT;replace HS:=HT;clear HT;simp only[List.set,zA,zB,zC]at HS;replace HS:=HS.imp (fun _ h=>h.next y))|((with_reducible refine dM rfl ?_);refine uFe 0 2 HS ?_;intro w9 HT;replace HS:=HT;clear HT;simp only[List.set,zA,zB,zC]at HS;replace HS:=HS.imp (fun _ h=>h.none))|(refine br 0 HS.st ?_)|(refine kL 0 0 HS.st ?_)|((with_reducible refine dM rfl ?_);(first|refine pT 1 HS HS.q ?_|refine pT 1 HS HS.q.bM ?_);intro fN HT;replace HS:=HT;clear HT;simp only[List.set]at HS))
 any_goals (have S0:Sm d:=hG.1.sm)
 any_goals first|exact bodyPost_ret (results_cell_row rfl _ _ g4 27 _ (0,0) _ rfl (HS.st.bx _ (.tail _ (.head _))).2.2 Tryz.underlying27 rfl (by rw[Tryz.fZ];rfl)) rfl ⟨_,rfl,_,(by first|exact S0|exact S0.next _|exact S0.none),(HS.st.ft.imp (fun _ h=>h.bM)).mono (fun k hk=>by simpa using hk.1),HS.cu,HS.st.be,HS.kb⟩|exact bodyPost_ret (results_cell_row rfl _ _ g4 27 _ (0,0) _ rfl (HS.st.bx _ (.tail _ (.head _))).2.2 Tryz.underlying27 rfl (by rw[Tryz.fZ];rfl)) rfl ⟨_,rfl,_,(by first|exact S0.next _|exact S0.none),HS.st.ft.mono (fun k hk=>by simpa using hk.1),HS.cu,HS.st.be,HS.kb⟩
 ·refine ez (n:=11) (S:=fun W=>W.cell? ⟨g5,1,none⟩=some v1∧W.cell? ⟨g5,0,none⟩=some (.slice A0 d.f0.length c0)) (ds:=[10]) (mb 0 11) (by kernel_rfl) rfl rfl ⟨mZ (HS.st.bx _ (.head _)).2.2 1,mZ (HS.st.bx _ (.head _)).2.2 0⟩ (fun hh=>?_);replace HS:=HS.drew;refine rP 0 (mb 1 10) ?_;refine rP 2 (mr [1,1,1,8]) ?_;refine rP 4 (mr [1,1,1,1,1,6]) ?_;refine rT 1 (mr [3,1,1,6]) hh ?_;refine rC 3 (mb 5 6) Tryz.func67 (afB HS.cu HS.st.be) ?_;rintro e w7 ⟨nm,rfl,hn1,hm⟩;replace HS:=HS.draw hm;clear hm;refine⟨_,rfl,⟨mZ (HS.st.bx _ (.head _)).2.2 1,mZ (HS.st.bx _ (.head _)).2.2 0⟩,fun hh=>rN ?_⟩;refine rC 5 (mb 6 5) Tryz.func59 (yw 4 HS.cu HS.st.be) ?_;rintro e w8 ⟨x,rfl,_,hm⟩;replace HS:=HS.draw hm;clear hm;refine⟨_,rfl,⟨mZ (HS.st.bx _ (.head _)).2.2 1,mZ (HS.st.bx _ (.head _)).2.2 0⟩,fun hh=>rN ?_⟩;refine rP 6 (mb 7 4) ?_;refine xb (i:=7) (N:=some 26) (mb 8 3) rfl rfl (by kernel_rfl) (by decide) (fun K hK=>?_);refine BR (w1:=w8.alloc (.cells #[.string nm,.int .i64 x] 89)) (v:=.slice (some ⟨w8.heap.size,0,none⟩) 1 1) (by rfl) rfl (by first|(go_simp;done)|(go_simp;rfl)) ?_;refine hK.out _ _ ⟨mX (gw (Below.refl _ _) _) hh.1,mX (gw (Below.refl _ _) _) hh.2⟩ (fun hh=>rN ?_);clear hK K hh;refine xb (i:=8) (N:=some 27) (mb 9 2) rfl rfl (by kernel_rfl) (by decide) (fun K hK=>?_);obtain⟨u0,u1,u2,e0,q0,q1,q2⟩:=HS.q;simp only[Array.mk.injEq,List.cons.injEq]at e0;obtain⟨rfl,rfl,rfl,_⟩:=e0;have l5:=fR (HS.st.bx _ (.head _)).2.2;have l4:g4<lo:=h2.1 _ (.head _);have ll:=h1.1;have lh:=h5.1;simp only at l5;refine Kd.Md ak w.heap.size (by rfl) (.tmp 20) (.tmp 26) 25 89 (.agg #[(.string ⟨#[]⟩),(.int .i64 0)]) 24 rfl Tryz.underlying25 jr rfl (by decide) (by omega) v1 d.f1 (⟨nm,x⟩:ab) [.string nm,.int .i64 x] (fun k=>(lo≤k∧k≠g5)∧some k≠v2.ownBlock) (fun _=>False) rfl rfl (pH _ _ _ (⟨nm,x⟩:ab)) (fun _ hk=>hk.elim) (fun k hk=>⟨⟨by omega,by omega⟩,fun e=>by have:=Kd.dK q2 k e.symm;omega⟩) (Kd.aw q1 (fun k hk=>⟨⟨hk.1.1,by have:=hk.1.2;omega⟩,hk.2⟩)) (Below.refl _ _) HS.kb.1 (by have:=hG.1.ok.small.1.h1;omega) ?_;intro v3 w9 ho hb hg hat;obtain⟨A3,c3,rfl⟩:=Kd.bU ho;have F9:Fr w.heap.size (fun k=>lo≤k∧k≠g5) #[.slice A0 d.f0.length c0,.slice A3 (d.f1++[(⟨nm,x⟩:ab)]).length c3,v2,.int .i64 d.f3] ⟨d.f0,d.f1++[⟨nm,x⟩],d.f2,d.f3⟩ w9:=⟨_,_,_,rfl,Kd.dH (Kd.SO (ok:=fun k=>(lo≤k∧k≠g5)∧some k≠v2.ownBlock) (Kd.dH q0 (fun k hk=>⟨⟨⟨hk.1.1,by have:=hk.1.2;omega⟩,hk.2.2⟩,hk.2.1⟩)) hg hat) (fun k hk=>⟨hk.1.1,hk.2,hk.1.2⟩),ho,Kd.pd (ok:=fun k=>lo≤k∧k≠g5) (Kd.aw q2 (fun k hk=>⟨⟨hk.1.1,by have:=hk.1.2;omega⟩,hk.2⟩)) hg hat⟩;replace HS:=HS.grown hg hb (Kv (P:=fun k=>some k≠v1.ownBlock) (fun e=>by have hk:=(q1.1 g5 e.symm).1.2;omega) (fun e=>by have hk:=(q1.1 g4 e.symm).1.1;omega)) (F9.wD.mono (fun k hk=>⟨by have:=hk.1;omega,Kv (P:=fun j=>j≠k) (fun e=>hk.2 e.symm) (fun e=>by have:=hk.1;omega)⟩));clear F9 q0 q1 q2 ho hb hg hat l5;refine hK.out _ _ ⟨mZ (HS.st.bx _ (.head _)).2.2 1,mZ (HS.st.bx _ (.head _)).2.2 0⟩ (fun hh=>dc 27 ?_);clear hK K;refine rP 9 (mb 10 1) ?_;refine rD 10 (mb 11 0) hh.1 (dL (HS.st.bx _ (.head _)).2.2 1) ?_;replace HS:=HS.J9 0 1 (.slice A3 (d.f1++[(⟨nm,x⟩:ab)]).length c3) rfl;simp only[List.set,zA,zB,zC]at HS;refine eM (by kernel_rfl) ?_;go_wp2_with (first|(refine br 0 HS.st ?_)|((with_reducible refine dM rfl ?_);refine pT 1 HS HS.q.bM ?_;intro fN HT;replace HS:=HT;clear HT;simp only[List.set]at HS));exact bodyPost_ret (results_cell_row rfl _ _ g4 27 _ (0,0) _ rfl (HS.st.bx _ (.tail _ (.head _))).2.2 Tryz.underlying27 rfl (by rw[Tryz.fZ];rfl)) rfl ⟨_,_,rfl,Sm.name hG.1 hn1 x,(HS.st.ft.imp (fun _ h=>h.bM)).mono (fun k hk=>by simpa using hk.1),HS.cu,HS.st.be,HS.kb⟩
 ·rename_i hp;have hgl:=HS.cu.lt;refine ez (n:=8) (S:=fun W=>W.cell? ⟨g5,1,none⟩=some v1∧W.cell? ⟨g5,0,none⟩=some (.slice A0 d.f0.length c0)) (ds:=[7]) (mb 0 8) (by kernel_rfl) rfl rfl ⟨mZ (HS.st.bx _ (.head _)).2.2 1,mZ (HS.st.bx _ (.head _)).2.2 0⟩ (fun hh=>?_);replace HS:=HS.drew;refine rP 0 (mb 1 7) ?_;refine rP 2 (mr [1,1,1,5]) ?_;refine rT 1 (mb 3 5) hh ?_;refine rI 3 [-1,0,100] (mb 4 4) ?_;intro A c w7 hR hb;replace HS:=HS.below hb;clear hb;refine⟨⟨mZ (HS.st.bx _ (.head _)).2.2 1,mZ (HS.st.bx _ (.head _)).2.2 0⟩,fun hh=>rN ?_⟩;refine rC 4 (mb 5 3) Tryz.func66 (Uv hR hgl (by decide) HS.cu HS.st.be) ?_;rintro e w8 ⟨y,rfl,hm⟩;replace HS:=HS.draw hm;clear hm hR;refine⟨_,rfl,⟨mZ (HS.st.bx _ (.head _)).2.2 1,mZ (HS.st.bx _ (.head _)).2.2 0⟩,fun hh=>rN ?_⟩;obtain⟨u0,u1,u2,e0,q0,q1,q2⟩:=HS.q;simp only[Array.mk.injEq,List.cons.injEq]at e0;obtain⟨rfl,rfl,rfl,_⟩:=e0;obtain⟨go,cap,e1,hge,hgo,cl,hgc⟩:=Kd.GW q0 hp;cases e1
  obtain⟨ce,hcl,hM,hcc,hfr⟩:=Kd.wa q0 gV 0 (by omega) (by omega);obtain⟨ua,uc,rfl,ul,ge⟩:=ri hM;have yL:w8.cell? ⟨go,2,none⟩=some (.int .i64 (ae d.f0 0).f2):=hcc 2 _ rfl;have DN:w8.frozen? ⟨go,2,none⟩=false:=hfr 2;have hN:Kd.N bf 63 (w8.setCell ⟨go,2,none⟩ (.int .i64 y)) w.heap.size (fun k=>(lo≤k∧k<hi)∧some k≠v1.ownBlock∧some k≠v2.ownBlock) (.slice (some ⟨go,0,none⟩) d.f0.length c0) (d.f0.set 0 ⟨(ae d.f0 0).f0,(ae d.f0 0).f1,y⟩)∧w8.grownBy (w8.setCell ⟨go,2,none⟩ (.int .i64 y)) (some go):=Kd.GZ q0 0 (by omega) (by omega) (seg:=[.int .i64 y]) (j:=2) hcl hcc (show 3≤3 from by decide) (x':=(⟨(ae d.f0 0).f0,(ae d.f0 0).f1,y⟩:aj)) (Jx _ _ (⟨(ae d.f0 0).f0,(ae d.f0 0).f1,y⟩:aj) ul ge) (fun _ hk=>hk);have F9:Fr w.heap.size (fun k=>lo≤k∧k<hi) #[.slice (some ⟨go,0,none⟩) d.f0.length c0,v1,v2,.int .i64 d.f3] ⟨d.f0.set 0 ⟨(ae d.f0 0).f0,(ae d.f0 0).f1,y⟩,d.f1,d.f2,d.f3⟩ (w8.setCell ⟨go,2,none⟩ (.int .i64 y)):=⟨_,_,_,rfl,hN.1,Kd.aw (Kd.fC (Kd.bq q1 hgc (by decide)) (p:=⟨go,2,none⟩) (fun k hk=>hk.2) _) (fun k hk=>hk.1),Kd.aw (Kd.fC (Kd.bq q2 hgc (by decide)) (p:=⟨go,2,none⟩) (fun k hk=>hk.2) _) (fun k hk=>hk.1)⟩;have hgk:=(q0.1 go rfl).1;have l4:g4<lo:=h2.1 _ (.head _);have ll:=h1.1;have lh:=h5.1;replace HS:=HS.grown hN.2 ((Below.refl _ _).setCell hge _) (Kv (P:=fun k=>some k≠some go) (fun e=>by have e:=Option.some.inj e;omega) (fun e=>by have e:=Option.some.inj e;omega)) (F9.wD.mono (fun k hk=>⟨by have:=hk.1;omega,Kv (P:=fun j=>j≠k) (fun e=>by have:=hk.2;omega) (fun e=>by have:=hk.1;omega)⟩));have p1:=eq_true (show (0:Int)≤0 by omega);have p2:=eq_true (show (0:Int)<(d.f0.length:Int) by omega);have p3:=eq_true hp;refine rP 5 (mb 6 2) ?_;refine rP 6 (mb 7 1) ?_;refine rD 7 (mb 8 0) yL DN ?_;refine eM (by kernel_rfl) ?_;go_wp2_with (first|(refine br 0 HS.st ?_)|((with_reducible refine dM rfl ?_);refine pT 1 HS HS.q.bM ?_;intro fN HT;replace HS:=HT;clear HT;simp only[List.set]at HS));exact bodyPost_ret (results_cell_row rfl _ _ g4 27 _ (0,0) _ rfl (HS.st.bx _ (.tail _ (.head _))).2.2 Tryz.underlying27 rfl (by rw[Tryz.fZ];rfl)) rfl ⟨_,rfl,_,Sm.sure hG.1.sm y,(HS.st.ft.imp (fun _ h=>h.bM)).mono (fun k hk=>by simpa using hk.1),HS.cu,HS.st.be,HS.kb⟩
end Go.Proofs.YtingkpnoiekliaaGreat.MZ
end
section
namespace Go.Proofs.YtingkpnoiekliaaGreat.MZ
open Go.RowKit Go.Proofs.YtingkpnoiekliaaGreatW.PrintWords Go.Proofs.YtingkpnoiekliaaGreatW.PrintLast Go.Proofs.YtingkpnoiekliaaGreatW.PrintMore Go.Proofs.YtingkpnoiekliaaGreat.MWords
attribute [local go_sem] max2_int min2_int max_two min_two max_three min_three max_four min_four
set_option linter.unusedVariables false
set_option linter.unusedSimpArgs false
def zy.f (k:Nat) (U:List Int):Option (List Int):=(gI.f k U).bind fun xl=>((zz.f xl).bind fun s7=>((dq.f k s7 (U.length:Int)).bind fun mJ=>(if mJ.length+U.length<140737488355328 then (some (mJ++U)) else (none))))
set_option maxHeartbeats 8000000 in
set_option maxRecDepth 100000 in
theorem zy.calls (k:Nat) (A0:Option Addr) (c0:Nat) (U:List Int) (r:List Int) (w:World) (b9:Kd.C (Kd.int .u8) w A0 U.length U) (cg:U.length≤c0) (h:zy.f k U=some r) :
 Calls Tryz.prog 97 #[.slice A0 U.length c0] w fun e w'=>∃bE:Value,e = .returned (bE)∧Kd.R (Kd.int .u8) 5 w' w.heap.size (fun _=>True) bE r∧Below w.heap.size w w':=by
 have cr:=J b9;have fy:=J cg;clear b9 cg;have HB:=J (Below.refl w.heap.size w);have H:((gI.f k U).bind fun xl=>((zz.f xl).bind fun s7=>((dq.f k s7 (U.length:Int)).bind fun mJ=>(if mJ.length+U.length<140737488355328 then (some (mJ++U)) else (none)))))=some r:=h;clear h;replace H:=Option.bind_eq_some_iff.mp H;obtain⟨xl,j9,H⟩:=H;replace H:((zz.f xl).bind fun s7=>((dq.f k s7 (U.length:Int)).bind fun mJ=>(if mJ.length+U.length<140737488355328 then (some (mJ++U)) else (none))))=some r:=H;have A2:=J j9;clear j9;replace H:=Option.bind_eq_some_iff.mp H;obtain⟨s7,dQ,H⟩:=H;replace H:((dq.f k s7 (U.length:Int)).bind fun mJ=>(if mJ.length+U.length<140737488355328 then (some (mJ++U)) else (none)))=some r:=H;have A3:=J dQ;clear dQ;replace H:=Option.bind_eq_some_iff.mp H;obtain⟨mJ,fw,H⟩:=H;replace H:(if mJ.length+U.length<140737488355328 then (some (mJ++U)) else (none))=some r:=H;have A4:=J fw;clear fw;by_cases c5:mJ.length+U.length<140737488355328
 ·rw[if_pos c5]at H;have LK:=J c5;clear c5;obtain⟨an9,Fw⟩:∃y_:List Int,y_=(mJ++U):=⟨_,rfl⟩;replace H:(some an9)=some r:=by first|(rw[Fw];with_reducible exact H)|(have ay:=(Option.bind_some _ _).symm.trans H;rw[Fw];with_reducible exact ay)|(have ay:=(Option.bind_some _ _).symm.trans H;with_reducible exact ay)|with_reducible exact H|(rw[Fw];exact H)|exact H
  have adL:=J Fw;clear Fw;obtain rfl:=Option.some.inj H;go_enter Tryz.func97,Tryz.ntmps97;go_wp2_with (first|((with_reducible refine aH (f:=112) rfl ?_);refine cd 4 Tryz.func112 #[.slice A0 U.length c0] ?_;(with_reducible refine(gI.calls k _ _ U xl _ ?aE ?aG A2.1).mono ?_);(case aE=>exact mC cr.1);(case aG=>exact fy.1);rintro e w' ⟨rfl,⟨nd,rfl⟩⟩;refine⟨_,rfl,?_⟩)|((with_reducible refine aH (f:=118) rfl ?_);refine cd 5 Tryz.func118 #[.int .i64 xl] ?_;(with_reducible refine(zz.calls xl s7 _ A3.1).mono ?_);rintro e w6 ⟨azE,rfl,bh,hb⟩;refine⟨_,rfl,?_⟩;have ux:=J (Kd.bT bh (aQ (mH HB.1)));replace HB:=J (aA (mH HB.1) hb);(try clear hb);(try clear bh);obtain⟨ui,uN,Du⟩:=Kd.bU ux.1;subst Du)|((with_reducible refine aH (f:=117) rfl ?_);refine cd 8 Tryz.func117 #[.slice ui s7.length uN,.int .i64 (U.length:Int)] ?_;(with_reducible refine(dq.calls k _ _ s7 (U.length:Int) mJ _ ?aE ?aG A4.1).mono ?_);(case aE=>exact mC (Kd.bG ux.1).2.2);(case aG=>exact(Kd.bG ux.1).2.1);rintro e w8 ⟨anH,rfl,bh,hb⟩;refine⟨_,rfl,?_⟩;have Sn:=J (Kd.bT (Kd.oI bh (Kd.dK (mR ux.1))) (aQ (mH HB.1)));replace ux:=J (Kd.r7 (mR ux.1) (Kd.fB bh) hb);replace HB:=J (aA (mH HB.1) hb);(try clear hb);(try clear bh))|((with_reducible refine iK (b:=.append) (xs:=#[.tmp 8,.tmp 9]) rfl ?_);at_builtin;refine Kd.uC (Kd.int .u8) (w0:=w) w.heap.size rfl (.tmp 8) (.tmp 9) 22 5 (.int .u8 0) 1 rfl Tryz.underlying22 l9 rfl (by decide) (by omega) anH mJ U _ _ _ (fun k_=>some k_≠(.slice ui s7.length uN:Value).ownBlock) (fun _=>False) rfl rfl ?aO ?aR (fun _ _ h=>h) (fun _ h=>h.elim) ?aF ?aB ?aS ?aL ?_;(case aR=>exact mC (Kd.az cr.1 HB.1));(case aB=>exact(mH HB.1));(case aF=>exact(fun k_ hk=>Kd.jN (Kd.dK (mR ux.1)) k_ hk));(case aO=>exact(by refine mR ?_;exact Kd.aw Sn.1 (fun _ hk=>hk.2)));(case aS=>exact(aQ (mH HB.1)));(case aL=>have:=LK.1;omega);intro azF w9 ho hb hg hat;rw[←adL.1]at ho;replace ux:=J (Kd.pd (ok:=(fun _=>True)) (mR ux.1) hg hat);replace HB:=J (hb);have abZ:=J (ho);clear Sn;clear ho hb hg hat));go_ret;exact⟨_,cP,by refine mR ?_;exact Kd.aw abZ.1 (fun _ hk=>trivial),(mH HB.1)⟩
 ·rw[if_neg c5]at H;exact absurd H (by simp)
end Go.Proofs.YtingkpnoiekliaaGreat.MZ
end
section
namespace Go.Proofs.YtingkpnoiekliaaGreat.MZ
open Go.RowKit Go.Proofs.YtingkpnoiekliaaGreatW.PrintWords Go.Proofs.YtingkpnoiekliaaGreatW.PrintLast Go.Proofs.YtingkpnoiekliaaGreatW.PrintMore Go.Proofs.YtingkpnoiekliaaGreat.MWords
attribute [local go_sem] max2_int min2_int max_two min_two max_three min_three max_four min_four
set_option linter.unusedVariables false
set_option linter.unusedSimpArgs false
def pP.f (k:Nat) (aa:List (aj)) (af:List (ab)) (ah:List (ab)) (ai:Int) (a1:ByteArray) (l2:List Int):Option ((List (aj)) × (List (ab)) × (List (ab)) × Int × Int):=(zy.f k l2).bind fun vC=>((js.f k aa af ah ai a1 vC).bind fun ni=>(some (ni.1,ni.2.1,ni.2.2.1,ni.2.2.2.1,ni.2.2.2.2)))
def pP.T1:Bool × List (List Nat × List Nat):=(true,[([],[]),([],[]),([],[]),([2],[2]),([0,1,3,3],[0,1,3]),([4],[4]),([4],[4]),([5,4,0,1,2,3,4,5,6],[5]),([6,7,0,1,2,3,4,5,6,7],[6])])
def pP.B1:List Nat:=[0,0,0,4,15,31,31,127,255]
theorem pP.om:eH .any (opsOf Tryz.f60 1)=pP.T1:=by kernel_rfl
theorem pP.nW:jE pP.T1.2 pP.B1=true:=by kernel_rfl
set_option maxHeartbeats 8000000 in
set_option maxRecDepth 100000 in
theorem pP.calls (k:Nat) (av:Option Addr) (al:Nat) (aa:List (aj)) (ar:Option Addr) (an:Nat) (af:List (ab)) (ao:Option Addr) (aq:Nat) (ah:List (ab)) (ai:Int) (a1:ByteArray) (A2:Option Addr) (c2:Nat) (l2:List Int) (r1:List (aj)) (r2:List (ab)) (r3:List (ab)) (r4:Int) (r5:Int) (w:World) (cW:Kd.C bf w av aa.length aa) (cT:aa.length≤al) (cX:Kd.C ak w ar af.length af) (cU:af.length≤an) (cY:Kd.C ak w ao ah.length ah) (cV:ah.length≤aq) (pB:Kd.C (Kd.int .u8) w A2 l2.length l2) (jn:l2.length≤c2) (h:pP.f k aa af ah ai a1 l2=some (r1,r2,r3,r4,r5)) :
 Calls Tryz.prog 60 #[.agg #[.slice av aa.length al,.slice ar af.length an,.slice ao ah.length aq,.int .i64 ai],.string a1,.slice A2 l2.length c2] w fun e w'=>∃bE cM cN:Value,e = .returned (.tuple #[.agg #[bE,cM,cN,.int .i64 r4],.int .i64 r5])∧Kd.N bf 63 w' w.heap.size (fun k_=>(w.heap.size≤k_)∧some k_≠(cM:Value).ownBlock∧some k_≠(cN:Value).ownBlock) bE r1∧Kd.R ak 89 w' w.heap.size (fun k_=>(w.heap.size≤k_)∧some k_≠(cN:Value).ownBlock) cM r2∧Kd.R ak 89 w' w.heap.size (fun k_=>(w.heap.size≤k_)∧some k_≠(cM:Value).ownBlock) cN r3∧Below w.heap.size w w':=by
 have ly:=Tryz.underlying27;have cG:=J cW;have df:=J cT;clear cW cT;have cC:=J cX;have cR:=J cU;clear cX cU;have cO:=J cY;have dg:=J cV;clear cY cV;have xX:=J pB;have tu:=J jn;clear pB jn;have HB:=J (Below.refl w.heap.size w);have H:((zy.f k l2).bind fun vC=>((js.f k aa af ah ai a1 vC).bind fun ni=>(some (ni.1,ni.2.1,ni.2.2.1,ni.2.2.2.1,ni.2.2.2.2))))=some (r1,r2,r3,r4,r5):=h;clear h;replace H:=Option.bind_eq_some_iff.mp H;obtain⟨vC,fw,H⟩:=H;replace H:((js.f k aa af ah ai a1 vC).bind fun ni=>(some (ni.1,ni.2.1,ni.2.2.1,ni.2.2.2.1,ni.2.2.2.2)))=some (r1,r2,r3,r4,r5):=H;have A4:=J fw;clear fw;replace H:=Option.bind_eq_some_iff.mp H;obtain⟨⟨BP,Ge,Kr,Qq,ZQ⟩,jv,H⟩:=H;replace H:(some (BP,Ge,Kr,Qq,ZQ))=some (r1,r2,r3,r4,r5):=H;have A5:=J jv;clear jv;simp only[Option.some.injEq,Prod.mk.injEq]at H;obtain⟨rfl,rfl,rfl,rfl,rfl⟩:=H;go_enter Tryz.func60,Tryz.ntmps60
 try go_wp2_with (first|((with_reducible refine aM (N:=3) rfl ?_);refine bg 3 #[.slice av aa.length al,.slice ar af.length an,.slice ao ah.length aq,.int .i64 ai] 27 ?_;intro AL hg w6 hbox hb;have oz:=J (hbox);have aoP:=mG hg (mH HB.1);have o9:=mG hg (mH HB.1);replace HB:=J (aA (mH HB.1) hb);clear hb hbox hg)|((with_reducible refine aM (N:=6) rfl ?_);refine bg 6 #[.slice none 0 0,.slice none 0 0,.slice none 0 0,.int .i64 0] 27 ?_;intro jY hg w7 hbox hb;have lJ:=J (hbox);have aoQ:=mG hg (aZ HB.1 o9.1);have rM:=mG hg (aZ HB.1 o9.1);replace HB:=J (aA (aZ HB.1 o9.1) hb);have ld:=bY hg oz.1;have GU:=bX hg oz.1;replace oz:=mB oz hb;clear hb hbox hg))
 replace oz:=J (dJ oz.1);replace lJ:=J (dJ lJ.1);replace HB:=J (dI HB.1);refine ez (n:=9) (S:=fun w'=>w'.cell? ⟨AL,0,none⟩=some (.slice av aa.length al)∧w'.cell? ⟨AL,1,none⟩=some (.slice ar af.length an)∧w'.cell? ⟨AL,2,none⟩=some (.slice ao ah.length aq)∧w'.cell? ⟨AL,3,none⟩=some (.int .i64 ai)) (ds:=[]) (mb 0 9) (by kernel_rfl) rfl rfl (eN oz.1) (fun hHeld=>?_);refine j8 pP.om pP.nW (fun HT_ HW_=>?_);generalize w7.drew=w8 at oz lJ HB hHeld ⊢
 refine aX 1 9 HT_.1 (mr [0,1,1,7]) ?_;refine aX 2 10 HT_.1 (mr [0,1,2,6]) ?_;refine dm 0 8 HT_.1 HW_.1 (mb 3 6) hHeld ?_;refine eO 3 (some 11) HT_.1 (mb 4 5) (fun K hK=>?_);refine kk Tryz.func97 (by kernel_rfl) rfl #[.slice A2 l2.length c2] (by rfl) rfl rfl mA ?_
 with_reducible refine(zy.calls k _ _ l2 vC _ ?aE ?aG A4.1).mono ?_
 (case aE=>exact mC (Kd.az xX.1 HB.1))
 (case aG=>exact tu.1)
 rintro e w9 ⟨azG,rfl,bh,hb⟩;refine⟨_,rfl,?_⟩;have Ae:=J (Kd.bT (Kd.tz (M:=fun k_=>(w.heap.size≤k_)) bh (aQ (aT HB.1 o9.1 rM.1)) (fun k_ h_=>h_)) (aQ (aT HB.1 o9.1 rM.1)));replace oz:=mB oz hb;replace lJ:=mB lJ hb;replace HB:=J (aA (aT HB.1 o9.1 rM.1) hb)
 (try clear hb)
 (try clear fS)
 (try clear hk)
 (try clear hi)
 (try clear bh)
 obtain⟨o4,pq,n5⟩:=Kd.bU Ae.1
 (first|subst n5|(injection n5 with cy eb cA;have ec:=cy.symm;have ee:=cA.symm;clear cy eb cA;subst ec;subst ee))
 refine hK.out _ _ (eN oz.1) (fun hHeld=>?_);clear hK K;refine dc 11 ?_;refine eO 4 (some 12) HT_.1 (mb 5 4) (fun K hK=>?_);refine kk Tryz.func65 (by kernel_rfl) rfl #[.agg #[.slice av aa.length al,.slice ar af.length an,.slice ao ah.length aq,.int .i64 ai],.string a1,.slice o4 vC.length pq] (by rfl) rfl rfl mA ?_
 with_reducible refine(js.calls k _ _ aa _ _ af _ _ ah ai a1 _ _ vC BP Ge Kr Qq ZQ _ ?aE ?aG ?bA ?bB ?bC ?bK ?nG ?nH A5.1).mono ?_
 (case aE=>exact mC (Kd.az cG.1 HB.1))
 (case aG=>exact df.1)
 (case bA=>exact mC (Kd.az cC.1 HB.1))
 (case bB=>exact cR.1)
 (case bC=>exact mC (Kd.az cO.1 HB.1))
 (case bK=>exact dg.1)
 (case nG=>exact mC (Kd.bG Ae.1).2.2)
 (case nH=>exact(Kd.bG Ae.1).2.1)
 rintro e eZ ⟨azH,aaj,aak,rfl,bh,ct,cp,hb⟩;refine⟨_,rfl,?_⟩;have Sp:=J (Kd.uB (Kd.dH (ok':=fun k_=>(w.heap.size≤k_)∧some k_≠(aaj:Value).ownBlock∧some k_≠(aak:Value).ownBlock∧some k_≠(.slice o4 vC.length pq:Value).ownBlock∧k_≠AL∧k_≠jY) bh (fun k_ hk_=>⟨(Nat.le_trans (aQ (aT HB.1 o9.1 rM.1)) hk_.1),hk_.2.1,hk_.2.2,(Kd.jN (Kd.dK (mR Ae.1)) k_ hk_.1),(Kd.fF (g:=AL) (o:=.cells #[.slice av aa.length al,.slice ar af.length an,.slice ao ah.length aq,.int .i64 ai] 27 (0,0)) (mK oz.1) k_ hk_.1),(Kd.fF (g:=jY) (o:=.cells #[.slice none 0 0,.slice none 0 0,.slice none 0 0,.int .i64 0] 27 (0,0)) (mK lJ.1) k_ hk_.1)⟩)) (aQ (aT HB.1 o9.1 rM.1)));replace Ae:=J (Kd.bu (mR Ae.1) hb);have Sq:=J (Kd.bT (Kd.tz (M:=fun k_=>(w.heap.size≤k_)) (Kd.aw (ok':=fun k_=>some k_≠(aak:Value).ownBlock) ct (fun _ hk_=>hk_.2)) (aQ (aT HB.1 o9.1 rM.1)) (fun k_ h_=>h_)) (aQ (aT HB.1 o9.1 rM.1)));have Sr:=J (Kd.bT (Kd.tz (M:=fun k_=>(w.heap.size≤k_)) (Kd.aw (ok':=fun k_=>some k_≠(aaj:Value).ownBlock) cp (fun _ hk_=>hk_.2)) (aQ (aT HB.1 o9.1 rM.1)) (fun k_ h_=>h_)) (aQ (aT HB.1 o9.1 rM.1)));replace oz:=mB oz hb;replace lJ:=mB lJ hb;replace HB:=J (aA (aT HB.1 o9.1 rM.1) hb)
 (try clear hb)
 (try clear fS)
 (try clear hk)
 (try clear hi)
 (try clear bh)
 (try clear ct)
 (try clear cp)
 obtain⟨td,sq,tM⟩:=Kd.oG Sp.1
 (first|subst tM|(injection tM with cy eb cA;have ec:=cy.symm;have ee:=cA.symm;clear cy eb cA;subst ec;subst ee))
 obtain⟨iH,iJ,nt⟩:=Kd.bU Sq.1
 (first|subst nt|(injection nt with cy eb cA;have ec:=cy.symm;have ee:=cA.symm;clear cy eb cA;subst ec;subst ee))
 obtain⟨dR,dU,l6⟩:=Kd.bU Sr.1
 (first|subst l6|(injection l6 with cy eb cA;have ec:=cy.symm;have ee:=cA.symm;clear cy eb cA;subst ec;subst ee))
 refine hK.out _ _ (eN oz.1) (fun hHeld=>?_);clear hK K;refine dc 12 ?_;refine aX 5 13 HT_.1 (mb 6 3) ?_;refine aX 6 14 HT_.1 (mb 7 2) ?_;refine eO 7 none HT_.1 (mb 8 1) (fun K hK=>?_);have akh:eZ.cell? ⟨jY,0,none⟩=some (.slice none 0 0):=mZ lJ.1 0;have aiJ:=dL lJ.1 0;have akc:=ld.1;have ajH:=GU.1;have Xs:eZ.cell? ⟨jY,1,none⟩=some (.slice none 0 0):=mZ lJ.1 1;have V5:=dL lJ.1 1;have Xj:=ld.1;have WY:=GU.1;have Xt:eZ.cell? ⟨jY,2,none⟩=some (.slice none 0 0):=mZ lJ.1 2;have V6:=dL lJ.1 2;have Xk:=ld.1;have WZ:=GU.1;have Xu:eZ.cell? ⟨jY,3,none⟩=some (.int .i64 0):=mZ lJ.1 3;have V7:=dL lJ.1 3;have Xl:=ld.1;have W0:=GU.1;refine oW (w1:=?_) (by rfl) rfl ?_ ?_
 rotate_left
 ·go_simp;rfl
 refine hK.out _ _ ⟨((cell_far (p:=⟨jY,_,none⟩) ld.1 _).trans (((cell_far (p:=⟨jY,_,none⟩) ld.1 _).trans (((cell_far (p:=⟨jY,_,none⟩) ld.1 _).trans (((cell_far (p:=⟨jY,_,none⟩) ld.1 _).trans (hHeld.1)))))))),((cell_far (p:=⟨jY,_,none⟩) ld.1 _).trans (((cell_far (p:=⟨jY,_,none⟩) ld.1 _).trans (((cell_far (p:=⟨jY,_,none⟩) ld.1 _).trans (((cell_far (p:=⟨jY,_,none⟩) ld.1 _).trans (hHeld.2.1)))))))),((cell_far (p:=⟨jY,_,none⟩) ld.1 _).trans (((cell_far (p:=⟨jY,_,none⟩) ld.1 _).trans (((cell_far (p:=⟨jY,_,none⟩) ld.1 _).trans (((cell_far (p:=⟨jY,_,none⟩) ld.1 _).trans (hHeld.2.2.1)))))))),((cell_far (p:=⟨jY,_,none⟩) ld.1 _).trans (((cell_far (p:=⟨jY,_,none⟩) ld.1 _).trans (((cell_far (p:=⟨jY,_,none⟩) ld.1 _).trans (((cell_far (p:=⟨jY,_,none⟩) ld.1 _).trans (hHeld.2.2.2))))))))⟩ (fun hHeld=>?_);clear hK K;refine aX 8 7 HT_.1 (mb 9 0) ?_;refine eM (jX HT_.1 (by kernel_rfl)) ?_
 try go_wp2
 refine bodyPost_ret (gT rfl _ _ jY 27 #[.slice td BP.length sq,.slice iH Ge.length iJ,.slice dR Kr.length dU,.int .i64 Qq] (0,0) _ rfl (by refine mK ?_;refine aN (cs:=#[.slice td BP.length sq,.slice iH Ge.length iJ,.slice dR Kr.length dU,.int .i64 0]) ?_ 3 _ rfl;refine mK ?_;refine aN (cs:=#[.slice td BP.length sq,.slice iH Ge.length iJ,.slice none 0 0,.int .i64 0]) ?_ 2 _ rfl;refine mK ?_;refine aN (cs:=#[.slice td BP.length sq,.slice none 0 0,.slice none 0 0,.int .i64 0]) ?_ 1 _ rfl;refine mK ?_;refine aN (cs:=#[.slice none 0 0,.slice none 0 0,.slice none 0 0,.int .i64 0]) ?_ 0 _ rfl;refine mK ?_;exact lJ.1) Tryz.underlying27 rfl (by kernel_rfl)) rfl ?_;exact⟨_,_,_,cP,by refine jA ?_;exact Kd.dH (tU (Kd.dH Sp.1 (fun k_ hk=>(⟨hk,hk.2.2.2.2.2⟩:_∧k_≠jY)))) (fun _ hk=>⟨hk.1.1,⟨hk.1.2.1,hk.1.2.2.1⟩⟩),by refine mR ?_;exact Kd.aw (cZ (Kd.bq Sq.1 lJ.1 (by decide))) (fun _ hk=>⟨hk.1.1,hk.1.2⟩),by refine mR ?_;exact Kd.aw (cZ (Kd.bq Sr.1 lJ.1 (by decide))) (fun _ hk=>⟨hk.1.1,hk.1.2⟩),(aT HB.1 o9.1 rM.1)⟩
end Go.Proofs.YtingkpnoiekliaaGreat.MZ
end
