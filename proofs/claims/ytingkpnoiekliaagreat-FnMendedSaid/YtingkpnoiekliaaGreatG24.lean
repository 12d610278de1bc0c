/- Walks and plain laws, put together: no condition of their own. -/
import Derived.Test.YtingkpnoiekliaaGreatG23
import Derived.Test.YtingkpnoiekliaaGreatG20
section
namespace Go.Proofs.YtingkpnoiekliaaGreat.MZ
open Go.RowKit Go.Proofs.YtingkpnoiekliaaGreatW.PrintWords Go.Proofs.YtingkpnoiekliaaGreatW.PrintLast Go.Proofs.YtingkpnoiekliaaGreatW.PrintMore Go.Proofs.YtingkpnoiekliaaGreat.MWords Go.Proofs.YtingkpnoiekliaaGreat.MZ
set_option linter.unusedVariables false
set_option linter.unusedSimpArgs false
theorem qx {P:Program} {fn:Func} {p u u2:Tmp} {ty:TypeId} (h:fn.results=#[.cell p ty,.tmp u,.tmp u2]) (tmps:Array Value) (w:World) (g:Nat) (t:TypeId) (cs:Array Value) (fr:Nat × Nat) (d:TypeDesc)
 (hp:tmps.getD p undef = .pointer (some ⟨g,0,none⟩)) (hg:w.heap[g]? = some (.cells cs t fr))
 (hu:P.underlying ty=some d) (hd:(match d with | .struct _ | .array _ _=>true|_=>false)=true) (hi:(P.info? ty).map (·.size)=some cs.size) :
 (results fn tmps).run P w = .ok (.tuple #[.agg cs,tmps.getD u undef,tmps.getD u2 undef]) w:=by
 have hp':tmps[p]?.getD undef = .pointer (some ⟨g,0,none⟩):=by simpa using hp
 simp[results,h,hp',asAddr,run_loadVar_row w g t ty cs fr d hg hu hd hi]
set_option maxHeartbeats 8000000 in
set_option maxRecDepth 100000 in
theorem ae7 {w:World} {cs:Array Value} {d:Dk} {nm:ByteArray} {r:dG} {L:List (List Int)} (hr:sN d nm=(r,L)) (hd:cH cs d w) (hs:Small d.f0 d.f1 d.f2) (hl:∀x ∈ d.f0,x.f1.length≤1048576) (hbd:Bd d.f0) (hn:nm.size≤9223372036854775807):Calls Tryz.prog 7 #[.agg cs,.string nm] w (Pm w r L):=by
 have HS:=St.start w (Xo w);have h4:=hd.size
 rcases JF hbd hr with ⟨hc,_,rfl,rfl⟩|⟨⟨hk,hno,hid⟩,_,rfl,rfl⟩|⟨⟨hk,hno,hid⟩,_,b,n,hb,iE,hbl,hnl,l,hrec,hcase⟩
 ·clear hr
  rcases hc with hk|⟨hk,hno⟩
  all_goals
   replace hk:=J (show bO d.f0 d.f1 d.f2 d.f3=_ from hk)
   try replace hno:=J hno
   go_enter Tryz.func7,Tryz.ntmps7;go_wp2_with (first|((with_reducible refine aM (N:=2) rfl ?_);refine bg 2 cs 27 ?_;intro g2 hg w1 hx hb;replace HS:=HS.box hg hx hb h4;clear hb hx hg)|((with_reducible refine aM (N:=4) rfl ?_);refine bg 4 mI 27 ?_;intro g4 hg w1 hx hb;replace HS:=HS.box hg hx hb rfl;clear hb hx hg)|(first|refine br 0 HS ?_|refine br 1 HS ?_|refine br 2 HS ?_)|((with_reducible refine aH (f:=11) rfl ?_);refine bz Tryz.func11 (Dc (eh hd HS.be) hs) ?_;rintro e w1 ⟨rfl,hb⟩;refine⟨_,rfl,?_⟩;replace HS:=HS.below hb;clear hb;rw[hk.1])|((with_reducible refine aH (f:=26) rfl ?_);(try (refine kQ (by rfl) ?_;dsimp only));refine bz Tryz.func26 (De hn) ?_;rintro e w1 ⟨rfl,hb⟩;refine⟨_,rfl,?_⟩;replace HS:=HS.below hb;clear hb;rw[hno.1])|((with_reducible refine aH (f:=28) rfl ?_);refine bz Tryz.func28 (Dd (nm:=nm) (eh hd HS.be) hs) ?_;rintro e w1 ⟨rfl,hb⟩;refine⟨_,rfl,?_⟩;replace HS:=HS.below hb;clear hb)|((with_reducible refine aH (f:=27) rfl ?_);refine bz Tryz.func27 (Ay (eh hd HS.be) hs) ?_;rintro e w1 ⟨c1,rfl,hR⟩;refine⟨_,rfl,?_⟩;replace HS:=(HS.call hR.2 hR.1 (xO HS.be)).imp (fun _ h=>Fs.low h.2 HS.be.size);clear hR)|((with_reducible refine dM rfl ?_);refine eP 0 HS HS.q.bM ?_;intro w1 HT;replace HS:=HT;clear HT;simp only[List.set]at HS));exact bodyPost_ret (qx rfl _ _ g4 27 _ (0,0) _ rfl (HS.bx _ (.head _)).2.2 Tryz.underlying27 rfl (by rw[Tryz.fZ,HS.q.size])) rfl ⟨_,_,w.heap.size,rfl,Nat.le_refl _,HS.q,Kd.pg _ _ _ _ _,HS.be⟩
 ·clear hr;replace hk:=J (show bO d.f0 d.f1 d.f2 d.f3=_ from hk);replace hno:=J hno;have hi:(dN d.f1 nm == 0)=true:=beq_iff_eq.2 hid;clear hid;go_enter Tryz.func7,Tryz.ntmps7;go_wp2_with (first|((with_reducible refine aM (N:=2) rfl ?_);refine bg 2 cs 27 ?_;intro g2 hg w1 hx hb;replace HS:=HS.box hg hx hb h4;clear hb hx hg)|((with_reducible refine aM (N:=4) rfl ?_);refine bg 4 mI 27 ?_;intro g4 hg w1 hx hb;replace HS:=HS.box hg hx hb rfl;clear hb hx hg)|(first|refine br 0 HS ?_|refine br 1 HS ?_|refine br 2 HS ?_)|((with_reducible refine aH (f:=11) rfl ?_);refine bz Tryz.func11 (Dc (eh hd HS.be) hs) ?_;rintro e w1 ⟨rfl,hb⟩;refine⟨_,rfl,?_⟩;replace HS:=HS.below hb;clear hb;rw[hk.1])|((with_reducible refine aH (f:=26) rfl ?_);(try (refine kQ (by rfl) ?_;dsimp only));refine bz Tryz.func26 (De hn) ?_;rintro e w1 ⟨rfl,hb⟩;refine⟨_,rfl,?_⟩;replace HS:=HS.below hb;clear hb;rw[hno.1])|((with_reducible refine aH (f:=28) rfl ?_);refine bz Tryz.func28 (Dd (nm:=nm) (eh hd HS.be) hs) ?_;rintro e w1 ⟨rfl,hb⟩;refine⟨_,rfl,?_⟩;replace HS:=HS.below hb;clear hb)|((with_reducible refine aH (f:=27) rfl ?_);refine bz Tryz.func27 (Ay (eh hd HS.be) hs) ?_;rintro e w1 ⟨c1,rfl,hR⟩;refine⟨_,rfl,?_⟩;replace HS:=(HS.call hR.2 hR.1 (xO HS.be)).imp (fun _ h=>Fs.low h.2 HS.be.size);clear hR)|((with_reducible refine dM rfl ?_);refine eP 0 HS HS.q.bM ?_;intro w1 HT;replace HS:=HT;clear HT;simp only[List.set]at HS));exact bodyPost_ret (qx rfl _ _ g4 27 _ (0,0) _ rfl (HS.bx _ (.head _)).2.2 Tryz.underlying27 rfl (by rw[Tryz.fZ,HS.q.size])) rfl ⟨_,_,w.heap.size,rfl,Nat.le_refl _,HS.q,Kd.pg _ _ _ _ _,HS.be⟩
 clear hr;have ho:eE d:=⟨qn.1 hk,hbd⟩;have hi:(dN d.f1 nm == 0)=false:=beq_eq_false_iff_ne.2 hid;clear hid;replace hk:=J (show bO d.f0 d.f1 d.f2 d.f3=_ from hk);replace hno:=J hno;replace hb:=J hb;replace hrec:=J hrec
 rcases hcase with ⟨hq,rfl,rfl⟩|⟨hq,hsw,hcase⟩
 ·have he:((n:Int) == (b.length:Int))=true:=beq_iff_eq.2 (by omega);clear hq;go_enter Tryz.func7,Tryz.ntmps7;go_wp2_with (first|((with_reducible refine aM (N:=2) rfl ?_);refine bg 2 cs 27 ?_;intro g2 hg w1 hx hb;replace HS:=HS.box hg hx hb h4;clear hb hx hg)|((with_reducible refine aM (N:=4) rfl ?_);refine bg 4 mI 27 ?_;intro g4 hg w1 hx hb;replace HS:=HS.box hg hx hb rfl;clear hb hx hg)|(first|refine br 0 HS ?_|refine br 1 HS ?_|refine br 2 HS ?_)|((with_reducible refine aH (f:=11) rfl ?_);refine bz Tryz.func11 (Dc (eh hd HS.be) hs) ?_;rintro e w1 ⟨rfl,hb⟩;refine⟨_,rfl,?_⟩;replace HS:=HS.below hb;clear hb;rw[hk.1])|((with_reducible refine aH (f:=26) rfl ?_);(try (refine kQ (by rfl) ?_;dsimp only));refine bz Tryz.func26 (De hn) ?_;rintro e w1 ⟨rfl,hb⟩;refine⟨_,rfl,?_⟩;replace HS:=HS.below hb;clear hb;rw[hno.1])|((with_reducible refine aH (f:=28) rfl ?_);refine bz Tryz.func28 (Dd (nm:=nm) (eh hd HS.be) hs) ?_;rintro e w1 ⟨rfl,hb⟩;refine⟨_,rfl,?_⟩;replace HS:=HS.below hb;clear hb)|((with_reducible refine aH (f:=9) rfl ?_);refine bz Tryz.func9 (Db hb.1 (eh hd HS.be) hs hl) ?_;rintro e w1 ⟨A1,k1,rfl,hR⟩;refine⟨_,rfl,?_⟩;have qZ:=J hR.1;replace HS:=(HS.call hR.2.2 hR.2.1 (xO HS.be)).imp (fun _ h=>h.2);clear hR)|((with_reducible refine aH (f:=10) rfl ?_);refine bz Tryz.func10 (ML hrec.1 iE hbl HS.q qZ.1) ?_;rintro e w1 ⟨v,rfl,hF,hR⟩;refine⟨_,rfl,?_⟩;obtain⟨m,hm⟩:∃m,m=w1.heap.size:=⟨_,rfl⟩;have hw:=HS.be.size;replace HS:=(HS.call hR hF (xO HS.be)).imp (fun W h=>And.intro h.1 (show Lz w.heap.size m v _ W from Kd.nV (Kd.eu h.2 (fun k hk=>⟨Nat.le_trans hw hk.1,Nat.lt_of_lt_of_eq hk.2 hm.symm⟩)) hw));have wP:w.heap.size≤m:=Nat.le_trans HS.be.size (Nat.le_of_eq hm.symm);replace wP:=J wP;replace hm:=J (Nat.le_of_eq hm);clear hR hF hw)|((with_reducible refine aH (f:=27) rfl ?_);refine bz Tryz.func27 (Ay (eh hd HS.be) hs) ?_;rintro e w1 ⟨c1,rfl,hR⟩;refine⟨_,rfl,?_⟩;replace HS:=(HS.call hR.2 hR.1 (xO HS.be)).imp (fun _ h=>And.intro h.1.2 (Fs.mono (ok':=fun k=>m≤k) h.2 HS.be.size (fun k hk=>Nat.le_trans hm.1 hk)));clear hR)|((with_reducible refine dM rfl ?_);refine eP 0 HS HS.q.2.bM ?_;intro w1 HT;replace HS:=HT;clear HT;simp only[List.set]at HS));exact bodyPost_ret (qx rfl _ _ g4 27 _ (0,0) _ rfl (HS.bx _ (.head _)).2.2 Tryz.underlying27 rfl (by rw[Tryz.fZ,HS.q.2.size])) rfl ⟨_,_,m,rfl,wP.1,HS.q.2,HS.q.1,HS.be⟩
 have he:((n:Int) == (b.length:Int))=false:=beq_eq_false_iff_ne.2 (by omega);clear hq;have hln:(b.take n).length=n:=by rw[List.length_take];omega
 obtain⟨ok2,rk⟩:=Qd ho (iE.take n) hsw;replace hsw:=J hsw;go_enter Tryz.func7,Tryz.ntmps7;go_wp2_with (first|((with_reducible refine aM (N:=2) rfl ?_);refine bg 2 cs 27 ?_;intro g2 hg w1 hx hb;replace HS:=HS.box hg hx hb h4;clear hb hx hg)|((with_reducible refine aM (N:=4) rfl ?_);refine bg 4 mI 27 ?_;intro g4 hg w1 hx hb;replace HS:=HS.box hg hx hb rfl;clear hb hx hg)|(first|refine br 0 HS ?_|refine br 1 HS ?_|refine br 2 HS ?_)|((with_reducible refine aH (f:=11) rfl ?_);refine bz Tryz.func11 (Dc (eh hd HS.be) hs) ?_;rintro e w1 ⟨rfl,hb⟩;refine⟨_,rfl,?_⟩;replace HS:=HS.below hb;clear hb;rw[hk.1])|((with_reducible refine aH (f:=26) rfl ?_);(try (refine kQ (by rfl) ?_;dsimp only));refine bz Tryz.func26 (De hn) ?_;rintro e w1 ⟨rfl,hb⟩;refine⟨_,rfl,?_⟩;replace HS:=HS.below hb;clear hb;rw[hno.1])|((with_reducible refine aH (f:=28) rfl ?_);refine bz Tryz.func28 (Dd (nm:=nm) (eh hd HS.be) hs) ?_;rintro e w1 ⟨rfl,hb⟩;refine⟨_,rfl,?_⟩;replace HS:=HS.below hb;clear hb)|((with_reducible refine aH (f:=9) rfl ?_);refine bz Tryz.func9 (Db hb.1 (eh hd HS.be) hs hl) ?_;rintro e w1 ⟨A1,k1,rfl,hR⟩;refine⟨_,rfl,?_⟩;have qZ:=J hR.1;replace HS:=(HS.call hR.2.2 hR.2.1 (xO HS.be)).imp (fun _ h=>h.2);clear hR)|((with_reducible refine aH (f:=10) rfl ?_);refine bz Tryz.func10 (ML hrec.1 iE hbl HS.q qZ.1) ?_;rintro e w1 ⟨v,rfl,hF,hR⟩;refine⟨_,rfl,?_⟩;obtain⟨m,hm⟩:∃m,m=w1.heap.size:=⟨_,rfl⟩;have hw:=HS.be.size;replace HS:=(HS.call hR hF (xO HS.be)).imp (fun W h=>And.intro h.1 (show Lz w.heap.size m v _ W from Kd.nV (Kd.eu h.2 (fun k hk=>⟨Nat.le_trans hw hk.1,Nat.lt_of_lt_of_eq hk.2 hm.symm⟩)) hw));have wP:w.heap.size≤m:=Nat.le_trans HS.be.size (Nat.le_of_eq hm.symm);replace wP:=J wP;replace hm:=J (Nat.le_of_eq hm);clear hR hF hw));have hnk:n≤k1:=Nat.le_trans hnl qZ.1
 have hS:∀w1,cH cs d w1→Kd.C (Kd.int .u8) w1 A1 b.length b→Calls Tryz.prog 29 #[.agg cs,.string jB,.slice A1 n k1,.string nm] w1 (Pd w1 r):=fun w1 h1 h2=>by
  have:=afc hsw.1 h1 ho ON.2 hn (iE.take n) (by rw[hln];omega) (Kd.GG h2 hnl) (by rw[hln];exact hnk);rw[hln]at this;exact this
 refine ez (n:=12) (S:=fun W=>W.heap[g2]? = some (.cells cs 27 (0,0))) (ds:=[10]) (mb 0 12) (by kernel_rfl) rfl rfl (HS.bx _ (.tail _ (.head _))).2.2 (fun hh=>?_);replace HS:=HS.drew;replace hm:=J (Nat.le_trans hm.1 (tD (Below.refl 0 _)).size);refine rP 1 (mr [0,1,1,10]) ?_;refine rP 2 (mr [0,1,2,9]) ?_;refine rP 4 (mr [0,1,2,1,1,7]) ?_;refine rL 0 (mr [3,1,1,7]) hh (fun _ h=>h) h4 ?_;refine rP 3 (mb 5 7) ?_;refine tZ (i:=5) (j:=9) (Ni:=some 55) (Nj:=some 11) (mb 6 6) (mr [5,4,1,2]) rfl rfl rfl rfl (by kernel_rfl) (by decide) (by decide) (fun K hK=>?_) (fun K hK=>?_)
 ·refine kC Tryz.func29 (hS _ (eh hd HS.be) HS.q.1) ?_;rintro e w1 ⟨c1,rfl,hR⟩;replace HS:=(HS.call hR.2 hR.1 (xO HS.be)).imp (fun _ h=>And.intro h.1.2 (Fs.mono (ok':=fun k=>m≤k) h.2 HS.be.size (fun k hk=>Nat.le_trans hm.1 hk)));clear hR;refine⟨_,rfl,hK.out _ _ (HS.bx _ (.tail _ (.head _))).2.2 (fun hh=>rN ?_)⟩;clear hK K;refine rP 6 (mb 7 5) ?_;refine rP 7 (mb 8 4) ?_;refine rP 8 (mb 9 3) ?_;refine rB 9 (mb 10 2) mI 27 (fun g11 hg w1 hx hb=>?_);replace HS:=HS.box hg hx hb rfl;clear hb hx hg;refine⟨(HS.bx _ (.tail _ (.tail _ (.head _)))).2.2,fun hh=>rN ?_⟩;refine rS 10 (mb 11 1) (HS.bx _ (.head _)).2.2 rfl HS.q.2.bM ?_;replace HS:=HS.set 0 rfl HS.q.2.size;simp only[List.set]at HS;refine rP 11 (mb 12 0) ?_;refine eM (by kernel_rfl) ?_
  rcases hcase with ⟨hz,rfl⟩|⟨hz,rfl⟩
  ·have h0:=bne_eq_false_iff_eq.2 hz;replace hz:=J hz;go_wp2_with (first|(first|refine br 0 HS ?_|refine br 1 HS ?_|refine br 2 HS ?_)|((with_reducible refine dM rfl ?_);refine eP 1 HS HS.q.2.bM ?_;intro w1 HT;replace HS:=HT;clear HT;simp only[List.set]at HS));exact bodyPost_ret (qx rfl _ _ g4 27 _ (0,0) _ rfl (HS.bx _ (.tail _ (.head _))).2.2 Tryz.underlying27 rfl (by rw[Tryz.fZ,HS.q.2.size])) rfl ⟨_,_,m,by rw[hz.1];rfl,wP.1,HS.q.2,HS.q.1,HS.be⟩
  ·have h0:=bne_iff_ne.2 hz;have e0:=rk hz;clear hz;go_wp2_with (first|(first|refine br 0 HS ?_|refine br 1 HS ?_|refine br 2 HS ?_)|((with_reducible refine aH (f:=27) rfl ?_);refine bz Tryz.func27 (Ay (eh hd HS.be) hs) ?_;rintro e w1 ⟨c2,rfl,hR⟩;refine⟨_,rfl,?_⟩;replace HS:=(HS.call hR.2 hR.1 (xO HS.be)).imp (fun _ h=>Fs.low h.2 HS.be.size);clear hR)|((with_reducible refine dM rfl ?_);refine eP 1 HS HS.q.bM ?_;intro w1 HT;replace HS:=HT;clear HT;simp only[List.set]at HS));exact bodyPost_ret (qx rfl _ _ g4 27 _ (0,0) _ rfl (HS.bx _ (.tail _ (.head _))).2.2 Tryz.underlying27 rfl (by rw[Tryz.fZ,HS.q.size])) rfl ⟨_,_,w.heap.size,rfl,Nat.le_refl _,by rw[e0];exact HS.q,Kd.pg _ _ _ _ _,HS.be⟩
 ·refine kB mI 27 (fun g11 hg w1 hx hb=>?_);replace HS:=HS.box hg hx hb rfl;replace hm:=J (Nat.le_trans hm.1 hb.size);clear hb hx hg;refine hK.out _ _ (HS.bx _ (.tail _ (.tail _ (.head _)))).2.2 (fun hh=>rN ?_);clear hK K;refine rC 5 (mr [6,3,1,2]) Tryz.func29 (hS _ (eh hd HS.be) HS.q.1) ?_;rintro e w1 ⟨c1,rfl,hR⟩;replace HS:=(HS.call hR.2 hR.1 (xO HS.be)).imp (fun _ h=>And.intro h.1.2 (Fs.mono (ok':=fun k=>m≤k) h.2 HS.be.size (fun k hk=>Nat.le_trans hm.1 hk)));clear hR;refine⟨_,rfl,(HS.bx _ (.tail _ (.tail _ (.head _)))).2.2,fun hh=>rN ?_⟩;refine rP 6 (mr [7,2,1,2]) ?_;refine rP 7 (mr [8,1,1,2]) ?_;refine rP 8 (mb 10 2) ?_;refine rS 10 (mb 11 1) (HS.bx _ (.head _)).2.2 rfl HS.q.2.bM ?_;replace HS:=HS.set 0 rfl HS.q.2.size;simp only[List.set]at HS;refine rP 11 (mb 12 0) ?_;refine eM (by kernel_rfl) ?_
  rcases hcase with ⟨hz,rfl⟩|⟨hz,rfl⟩
  ·have h0:=bne_eq_false_iff_eq.2 hz;replace hz:=J hz;go_wp2_with (first|(first|refine br 0 HS ?_|refine br 1 HS ?_|refine br 2 HS ?_)|((with_reducible refine dM rfl ?_);refine eP 1 HS HS.q.2.bM ?_;intro w1 HT;replace HS:=HT;clear HT;simp only[List.set]at HS));exact bodyPost_ret (qx rfl _ _ g4 27 _ (0,0) _ rfl (HS.bx _ (.tail _ (.head _))).2.2 Tryz.underlying27 rfl (by rw[Tryz.fZ,HS.q.2.size])) rfl ⟨_,_,m,by rw[hz.1];rfl,wP.1,HS.q.2,HS.q.1,HS.be⟩
  ·have h0:=bne_iff_ne.2 hz;have e0:=rk hz;clear hz;go_wp2_with (first|(first|refine br 0 HS ?_|refine br 1 HS ?_|refine br 2 HS ?_)|((with_reducible refine aH (f:=27) rfl ?_);refine bz Tryz.func27 (Ay (eh hd HS.be) hs) ?_;rintro e w1 ⟨c2,rfl,hR⟩;refine⟨_,rfl,?_⟩;replace HS:=(HS.call hR.2 hR.1 (xO HS.be)).imp (fun _ h=>Fs.low h.2 HS.be.size);clear hR)|((with_reducible refine dM rfl ?_);refine eP 1 HS HS.q.bM ?_;intro w1 HT;replace HS:=HT;clear HT;simp only[List.set]at HS));exact bodyPost_ret (qx rfl _ _ g4 27 _ (0,0) _ rfl (HS.bx _ (.tail _ (.head _))).2.2 Tryz.underlying27 rfl (by rw[Tryz.fZ,HS.q.size])) rfl ⟨_,_,w.heap.size,rfl,Nat.le_refl _,by rw[e0];exact HS.q,Kd.pg _ _ _ _ _,HS.be⟩
end Go.Proofs.YtingkpnoiekliaaGreat.MZ
end
section
namespace Go.Proofs.YtingkpnoiekliaaGreat.MZ
open Go.RowKit Go.Proofs.YtingkpnoiekliaaGreatW.PrintWords Go.Proofs.YtingkpnoiekliaaGreatW.PrintLast Go.Proofs.YtingkpnoiekliaaGreatW.PrintMore Go.Proofs.YtingkpnoiekliaaGreat.MWords Go.Proofs.YtingkpnoiekliaaGreat.MZ
set_option linter.unusedVariables false
set_option linter.unusedSimpArgs false
section
variable {ops:Array Oper} {rest:List Oper} {o:Oper} {a:Act} {K:Exit→Act→World→Prop} {w:World}
theorem Qy (e:Nat) (h:∀A c w1,Below w.heap.size w w1→wpList Tryz.prog ops K rest (a.put o.dst (.slice A 0 c)) w1) {n:Tmp} (hg:o.guard=none:=by rfl) (hd:o.dst=some n:=by rfl) (hr:(execOp a.eval o).run Tryz.prog w = .ok (.value (.slice (some ⟨w.heap.size,0,none⟩) 0 0)) (w.alloc (.cells #[] e)):=by first|(go_simp;done)|(go_simp;rfl)):wpList Tryz.prog ops K (o::rest) a w:=
 Kd.jc (Kd.int .u8) w.heap.size e hg hd (xs:=([]:List Int)) (inner:=[]) (ok:=fun _=>True) (okp:=fun _=>True) hr (ba.none _ _) (fun _ h=>h) trivial (Below.refl _ _) (Nat.le_refl _) (by simp) (fun v1 w1 hR hb _ _=>by
  obtain⟨A,c,rfl⟩:=Kd.bU hR;exact h A c w1 hb)
end
theorem J6 {w:World} {cs:Array Value} {d:Dk} (hd:cH cs d w) (hs:Small d.f0 d.f1 d.f2):Calls Tryz.prog 31 #[.agg cs] w (fun e w'=>∃cs',e = .returned (.agg cs')∧Rf w w' cs' d):=
 (P0 hd hs).mono (fun e w' ⟨v0,v1,v2,he,hF,hb⟩=>⟨_,he,hF.now.fr.rf hb⟩)
theorem Y8 {w:World} {b:List Int} {A:Option Addr} {c:Nat} {L:List (List Int)} {n:Int} (he:iF b=(L,n)) (iE:bJ b) (hl:b.length≤1048576) (gb:Kd.C (Kd.int .u8) w A b.length b) (lb:b.length≤c):Calls Tryz.prog 33 #[.slice A b.length c] w (fun e w'=>∃A2 c2,e = .returned (.tuple #[.slice A2 L.length c2,.int .i64 n])∧L.length≤c2∧Foot (fun W=>Kd.C (Kd.slice 5 (Kd.int .u8)) W A2 L.length L) w' (fun k=>w.heap.size≤k)∧Below w.heap.size w w'):=
 (ama he iE hl gb lb).mono (fun e w' ⟨v,he,hF,hb⟩=>by
  obtain⟨A2,c2,rfl⟩:=Kd.kF hF.now;exact⟨A2,c2,he,(Kd.kf hF.now).2.1,hF.imp (fun W h=>(Kd.kf h).2.2),hb⟩)
def Pn (w:World) (r:dG) (L:List (List Int)) (e:Ending) (w':World):Prop:=∃cs' A c,e = .returned (.tuple #[.agg cs',.slice A L.length c,.int .i64 r.2.2.2.2])∧L.length≤c∧Foot (fun W=>Kd.C (Kd.slice 5 (Kd.int .u8)) W A L.length L∧cH cs' (bR r) W) w' (fun k=>w.heap.size≤k)∧Below w.heap.size w w'
theorem La {α:Type} {d:Kd α} {W:World} {A:Option Addr}:Kd.C d W A 0 []:=⟨rfl,by decide,fun h=>absurd h (by decide)⟩
theorem St.pn {w0 w:World} {bs:List (Nat × Array Value)} {Q:World→Prop} (h:St w0 (Xo w0) bs Q w):Foot Q w (fun k=>w0.heap.size≤k):=h.ft.mono (fun k hk=>Nat.not_lt.1 hk.1)
set_option maxHeartbeats 8000000 in
set_option maxRecDepth 100000 in
theorem al8 {w:World} {cs:Array Value} {d:Dk} {nm:ByteArray} {r:dG} {L:List (List Int)} (hr:sN d nm=(r,L)) (hd:cH cs d w) (hs:Small d.f0 d.f1 d.f2) (hl:∀x ∈ d.f0,x.f1.length≤1048576) (hbd:Bd d.f0) (hn:nm.size≤9223372036854775807):Calls Tryz.prog 8 #[.agg cs,.string nm] w (Pn w r L):=by
 have HS:=St.start w (Xo w);have h4:=hd.size;have key:=JF hbd hr;clear hr
 have k12:(∃z,z≠0∧dt (hP d) d.f1 nm=z∧r=(d.f0,d.f1,d.f2,d.f3,z)∧L=[])∨(hP d=true∧dt (hP d) d.f1 nm=0∧∃b n,jx (hP d) d.f0 d.f1 nm=(b,true)∧bJ b∧b.length≤1048576∧n≤b.length∧(∃l,iF b=(l,(n:Int)) ∧
  ((n=b.length∧r=(d.f0,d.f1,d.f2,d.f3,0)∧L=l)∨(n≠b.length∧s6 d jB (b.take n) nm=r∧((r.2.2.2.2=0∧L=l)∨(¬r.2.2.2.2=0∧L=[])))))):=by
  rcases key with ⟨_,h1,h2⟩|⟨_,h1,h2⟩|⟨h0,h1,h2⟩
  ·exact Or.inl ⟨1,by decide,h1,h2⟩
  ·exact Or.inl ⟨2,by decide,h1,h2⟩
  ·exact Or.inr ⟨h0.1,h1,h2⟩
 clear key
 rcases k12 with ⟨z,hz,hcall,rfl,rfl⟩|⟨hk,hcall,b,n,hb,iE,hbl,hnl,l,hrec,hcase⟩
 ·have sH:=bne_iff_ne.2 hz;replace hcall:=J (show dt (bO d.f0 d.f1 d.f2 d.f3) d.f1 nm=z from hcall);clear hz;go_enter Tryz.func8,Tryz.ntmps8;go_wp2_with (first|((with_reducible refine aM (N:=2) rfl ?_);refine bg 2 cs 27 ?_;intro g2 hg w1 hx hb;replace HS:=HS.box hg hx hb h4;clear hb hx hg)|((with_reducible refine aM (N:=4) rfl ?_);refine bg 4 mI 27 ?_;intro g4 hg w1 hx hb;replace HS:=HS.box hg hx hb rfl;clear hb hx hg)|(first|refine br 0 HS ?_|refine br 1 HS ?_|refine br 2 HS ?_)|((with_reducible refine aH (f:=30) rfl ?_);refine bz Tryz.func30 (BD (eh hd HS.be) hs hn) ?_;rintro e w1 ⟨rfl,hb⟩;refine⟨_,rfl,?_⟩;replace HS:=HS.below hb;clear hb;rw[hcall.1])|((with_reducible refine aH (f:=31) rfl ?_);refine bz Tryz.func31 (J6 (eh hd HS.be) hs) ?_;rintro e w1 ⟨c1,rfl,hR⟩;refine⟨_,rfl,?_⟩;replace HS:=(HS.call hR.2 hR.1 (xO HS.be)).imp (fun _ h=>Fr.low h.2 HS.be.size);clear hR)|((with_reducible refine aM (N:=20) rfl ?_);refine Qy 22 ?_;intro An kn w1 hb;replace HS:=HS.below hb;clear hb)|((with_reducible refine dM rfl ?_);refine eP 0 HS HS.q.bM ?_;intro w1 HT;replace HS:=HT;clear HT;simp only[List.set]at HS));exact bodyPost_ret (qx rfl _ _ g4 27 _ (0,0) _ rfl (HS.bx _ (.head _)).2.2 Tryz.underlying27 rfl (by rw[Tryz.fZ,HS.q.size])) rfl ⟨_,_,_,rfl,Nat.zero_le _,(HS.imp (fun _ h=>And.intro La h.bM)).pn,HS.be⟩
 have ho:eE d:=⟨qn.1 hk,hbd⟩;replace hcall:=J (show dt (bO d.f0 d.f1 d.f2 d.f3) d.f1 nm=0 from hcall);replace hb:=J hb;replace hrec:=J hrec
 rcases hcase with ⟨hq,rfl,rfl⟩|⟨hq,hsw,hcase⟩
 ·have he:((n:Int) == (b.length:Int))=true:=beq_iff_eq.2 (by omega);clear hq;go_enter Tryz.func8,Tryz.ntmps8;go_wp2_with (first|((with_reducible refine aM (N:=2) rfl ?_);refine bg 2 cs 27 ?_;intro g2 hg w1 hx hb;replace HS:=HS.box hg hx hb h4;clear hb hx hg)|((with_reducible refine aM (N:=4) rfl ?_);refine bg 4 mI 27 ?_;intro g4 hg w1 hx hb;replace HS:=HS.box hg hx hb rfl;clear hb hx hg)|(first|refine br 0 HS ?_|refine br 1 HS ?_|refine br 2 HS ?_)|((with_reducible refine aH (f:=30) rfl ?_);refine bz Tryz.func30 (BD (eh hd HS.be) hs hn) ?_;rintro e w1 ⟨rfl,hb⟩;refine⟨_,rfl,?_⟩;replace HS:=HS.below hb;clear hb;rw[hcall.1])|((with_reducible refine aH (f:=32) rfl ?_);refine bz Tryz.func32 (Y2 hb.1 (eh hd HS.be) hs hl hn) ?_;rintro e w1 ⟨A1,k1,rfl,hR⟩;refine⟨_,rfl,?_⟩;have qZ:=J hR.1;replace HS:=(HS.call hR.2.2 hR.2.1 (xO HS.be)).imp (fun _ h=>h.2);clear hR)|((with_reducible refine aH (f:=33) rfl ?_);refine bz Tryz.func33 (Y8 hrec.1 iE hbl HS.q qZ.1) ?_;rintro e w1 ⟨A2,k2,rfl,hlk,hF,hR⟩;refine⟨_,rfl,?_⟩;have tP:=J hlk;replace HS:=HS.call hR hF (xO HS.be);clear hR hF hlk)|((with_reducible refine aH (f:=31) rfl ?_);refine bz Tryz.func31 (J6 (eh hd HS.be) hs) ?_;rintro e w1 ⟨c1,rfl,hR⟩;refine⟨_,rfl,?_⟩;replace HS:=(HS.call hR.2 hR.1 (xO HS.be)).imp (fun _ h=>And.intro h.1.2 h.2.bM);clear hR)|((with_reducible refine dM rfl ?_);refine eP 0 HS HS.q.2 ?_;intro w1 HT;replace HS:=HT;clear HT;simp only[List.set]at HS));exact bodyPost_ret (qx rfl _ _ g4 27 _ (0,0) _ rfl (HS.bx _ (.head _)).2.2 Tryz.underlying27 rfl (by rw[Tryz.fZ,HS.q.2.size])) rfl ⟨_,_,_,rfl,tP.1,HS.pn,HS.be⟩
 have he:((n:Int) == (b.length:Int))=false:=beq_eq_false_iff_ne.2 (by omega);clear hq;have hln:(b.take n).length=n:=by rw[List.length_take];omega
 have rk:=(Qd ho (iE.take n) hsw).2;obtain⟨r1,e1⟩:∃r,vy d jB (b.take n) nm=r:=⟨_,rfl⟩
 have pC:r1.2.2.2.2=r.2.2.2.2∧(r.2.2.2.2=0→r1=r):=by
  unfold s6 at hsw;rw[e1]at hsw;subst hsw;unfold Hf;split
  ·exact⟨rfl,fun _=>rfl⟩
  ·rename_i h;exact⟨rfl,fun h2=>absurd h2 h⟩
 clear hsw;replace pC:=J pC;replace e1:=J e1;go_enter Tryz.func8,Tryz.ntmps8;go_wp2_with (first|((with_reducible refine aM (N:=2) rfl ?_);refine bg 2 cs 27 ?_;intro g2 hg w1 hx hb;replace HS:=HS.box hg hx hb h4;clear hb hx hg)|((with_reducible refine aM (N:=4) rfl ?_);refine bg 4 mI 27 ?_;intro g4 hg w1 hx hb;replace HS:=HS.box hg hx hb rfl;clear hb hx hg)|(first|refine br 0 HS ?_|refine br 1 HS ?_|refine br 2 HS ?_)|((with_reducible refine aH (f:=30) rfl ?_);refine bz Tryz.func30 (BD (eh hd HS.be) hs hn) ?_;rintro e w1 ⟨rfl,hb⟩;refine⟨_,rfl,?_⟩;replace HS:=HS.below hb;clear hb;rw[hcall.1])|((with_reducible refine aH (f:=32) rfl ?_);refine bz Tryz.func32 (Y2 hb.1 (eh hd HS.be) hs hl hn) ?_;rintro e w1 ⟨A1,k1,rfl,hR⟩;refine⟨_,rfl,?_⟩;have qZ:=J hR.1;replace HS:=(HS.call hR.2.2 hR.2.1 (xO HS.be)).imp (fun _ h=>h.2);clear hR)|((with_reducible refine aH (f:=33) rfl ?_);refine bz Tryz.func33 (Y8 hrec.1 iE hbl HS.q qZ.1) ?_;rintro e w1 ⟨A2,k2,rfl,hlk,hF,hR⟩;refine⟨_,rfl,?_⟩;have tP:=J hlk;replace HS:=HS.call hR hF (xO HS.be);clear hR hF hlk));have hnk:n≤k1:=Nat.le_trans hnl qZ.1
 have hS:∀w1,cH cs d w1→Kd.C (Kd.int .u8) w1 A1 b.length b→Calls Tryz.prog 34 #[.agg cs,.string nm,.slice A1 n k1] w1 (Pt w1 r1):=fun w1 h1 h2=>by
  have:=amo e1.1 h1 ho hn (iE.take n) (by rw[hln];omega) (Kd.GG h2 hnl) (by rw[hln];exact hnk);rw[hln]at this;exact this
 refine ez (n:=12) (S:=fun W=>W.heap[g2]? = some (.cells cs 27 (0,0))) (ds:=[10]) (mb 0 12) (by kernel_rfl) rfl rfl (HS.bx _ (.tail _ (.head _))).2.2 (fun hh=>?_);replace HS:=HS.drew;refine rP 1 (mr [0,1,1,10]) ?_;refine rP 2 (mr [0,1,2,9]) ?_;refine rP 3 (mr [0,1,3,8]) ?_;refine rL 0 (mb 4 8) hh (fun _ h=>h) h4 ?_;refine rP 4 (mb 5 7) ?_;refine tZ (i:=5) (j:=9) (Ni:=some 46) (Nj:=some 12) (mb 6 6) (mr [5,4,1,2]) rfl rfl rfl rfl (by kernel_rfl) (by decide) (by decide) (fun K hK=>?_) (fun K hK=>?_)
 ·refine kC Tryz.func34 (hS _ (eh hd HS.be) HS.q.1) ?_;rintro e w1 ⟨c1,rfl,hR⟩;replace HS:=(HS.call hR.2 hR.1 (xO HS.be)).imp (fun _ h=>And.intro h.1.2 h.2.bM);clear hR;refine⟨_,rfl,hK.out _ _ (HS.bx _ (.tail _ (.head _))).2.2 (fun hh=>rN ?_)⟩;clear hK K;refine rP 6 (mb 7 5) ?_;refine rP 7 (mb 8 4) ?_;refine rP 8 (mb 9 3) ?_;refine rB 9 (mb 10 2) mI 27 (fun g12 hg w1 hx hb=>?_);replace HS:=HS.box hg hx hb rfl;clear hb hx hg;refine⟨(HS.bx _ (.tail _ (.tail _ (.head _)))).2.2,fun hh=>rN ?_⟩;refine rS 10 (mb 11 1) (HS.bx _ (.head _)).2.2 rfl HS.q.2 ?_;replace HS:=HS.set 0 rfl HS.q.2.size;simp only[List.set]at HS;refine rP 11 (mb 12 0) ?_;refine eM (by kernel_rfl) ?_
  rcases hcase with ⟨hz,rfl⟩|⟨hz,rfl⟩
  ·have h0:(r1.2.2.2.2 != 0)=false:=by rw[pC.1.1];exact bne_eq_false_iff_eq.2 hz
   obtain rfl:=pC.1.2 hz;replace hz:=J hz;clear pC;go_wp2_with (first|(first|refine br 0 HS ?_|refine br 1 HS ?_|refine br 2 HS ?_)|((with_reducible refine dM rfl ?_);refine eP 1 HS HS.q.2 ?_;intro w1 HT;replace HS:=HT;clear HT;simp only[List.set]at HS));exact bodyPost_ret (qx rfl _ _ g4 27 _ (0,0) _ rfl (HS.bx _ (.tail _ (.head _))).2.2 Tryz.underlying27 rfl (by rw[Tryz.fZ,HS.q.2.size])) rfl ⟨_,_,_,by rw[hz.1];rfl,tP.1,HS.pn,HS.be⟩
  ·have h0:(r1.2.2.2.2 != 0)=true:=by rw[pC.1.1];exact bne_iff_ne.2 hz
   have e0:=rk hz;have e2:=J pC.1.1;clear hz pC;go_wp2_with (first|(first|refine br 0 HS ?_|refine br 1 HS ?_|refine br 2 HS ?_)|((with_reducible refine aH (f:=31) rfl ?_);refine bz Tryz.func31 (J6 (eh hd HS.be) hs) ?_;rintro e w1 ⟨c1,rfl,hR⟩;refine⟨_,rfl,?_⟩;replace HS:=(HS.call hR.2 hR.1 (xO HS.be)).imp (fun _ h=>Fr.low h.2 HS.be.size);clear hR)|((with_reducible refine aM (N:=53) rfl ?_);refine Qy 22 ?_;intro An kn w1 hb;replace HS:=HS.below hb;clear hb)|((with_reducible refine dM rfl ?_);refine eP 1 HS HS.q.bM ?_;intro w1 HT;replace HS:=HT;clear HT;simp only[List.set]at HS));exact bodyPost_ret (qx rfl _ _ g4 27 _ (0,0) _ rfl (HS.bx _ (.tail _ (.head _))).2.2 Tryz.underlying27 rfl (by rw[Tryz.fZ,HS.q.size])) rfl ⟨_,_,_,by rw[←e2.1];rfl,Nat.zero_le _,(HS.imp (fun _ h=>And.intro La (by rw[e0];exact h.bM))).pn,HS.be⟩
 ·refine kB mI 27 (fun g12 hg w1 hx hb=>?_);replace HS:=HS.box hg hx hb rfl;clear hb hx hg;refine hK.out _ _ (HS.bx _ (.tail _ (.tail _ (.head _)))).2.2 (fun hh=>rN ?_);clear hK K;refine rC 5 (mr [6,3,1,2]) Tryz.func34 (hS _ (eh hd HS.be) HS.q.1) ?_;rintro e w1 ⟨c1,rfl,hR⟩;replace HS:=(HS.call hR.2 hR.1 (xO HS.be)).imp (fun _ h=>And.intro h.1.2 h.2.bM);clear hR;refine⟨_,rfl,(HS.bx _ (.tail _ (.tail _ (.head _)))).2.2,fun hh=>rN ?_⟩;refine rP 6 (mr [7,2,1,2]) ?_;refine rP 7 (mr [8,1,1,2]) ?_;refine rP 8 (mb 10 2) ?_;refine rS 10 (mb 11 1) (HS.bx _ (.head _)).2.2 rfl HS.q.2 ?_;replace HS:=HS.set 0 rfl HS.q.2.size;simp only[List.set]at HS;refine rP 11 (mb 12 0) ?_;refine eM (by kernel_rfl) ?_
  rcases hcase with ⟨hz,rfl⟩|⟨hz,rfl⟩
  ·have h0:(r1.2.2.2.2 != 0)=false:=by rw[pC.1.1];exact bne_eq_false_iff_eq.2 hz
   obtain rfl:=pC.1.2 hz;replace hz:=J hz;clear pC;go_wp2_with (first|(first|refine br 0 HS ?_|refine br 1 HS ?_|refine br 2 HS ?_)|((with_reducible refine dM rfl ?_);refine eP 1 HS HS.q.2 ?_;intro w1 HT;replace HS:=HT;clear HT;simp only[List.set]at HS));exact bodyPost_ret (qx rfl _ _ g4 27 _ (0,0) _ rfl (HS.bx _ (.tail _ (.head _))).2.2 Tryz.underlying27 rfl (by rw[Tryz.fZ,HS.q.2.size])) rfl ⟨_,_,_,by rw[hz.1];rfl,tP.1,HS.pn,HS.be⟩
  ·have h0:(r1.2.2.2.2 != 0)=true:=by rw[pC.1.1];exact bne_iff_ne.2 hz
   have e0:=rk hz;have e2:=J pC.1.1;clear hz pC;go_wp2_with (first|(first|refine br 0 HS ?_|refine br 1 HS ?_|refine br 2 HS ?_)|((with_reducible refine aH (f:=31) rfl ?_);refine bz Tryz.func31 (J6 (eh hd HS.be) hs) ?_;rintro e w1 ⟨c1,rfl,hR⟩;refine⟨_,rfl,?_⟩;replace HS:=(HS.call hR.2 hR.1 (xO HS.be)).imp (fun _ h=>Fr.low h.2 HS.be.size);clear hR)|((with_reducible refine aM (N:=53) rfl ?_);refine Qy 22 ?_;intro An kn w1 hb;replace HS:=HS.below hb;clear hb)|((with_reducible refine dM rfl ?_);refine eP 1 HS HS.q.bM ?_;intro w1 HT;replace HS:=HT;clear HT;simp only[List.set]at HS));exact bodyPost_ret (qx rfl _ _ g4 27 _ (0,0) _ rfl (HS.bx _ (.tail _ (.head _))).2.2 Tryz.underlying27 rfl (by rw[Tryz.fZ,HS.q.size])) rfl ⟨_,_,_,by rw[←e2.1];rfl,Nat.zero_le _,(HS.imp (fun _ h=>And.intro La (by rw[e0];exact h.bM))).pn,HS.be⟩
end Go.Proofs.YtingkpnoiekliaaGreat.MZ
end
section
namespace Go.Proofs.YtingkpnoiekliaaGreat.MZ
open Go.RowKit Go.Proofs.YtingkpnoiekliaaGreatW.PrintWords Go.Proofs.YtingkpnoiekliaaGreatW.PrintLast Go.Proofs.YtingkpnoiekliaaGreatW.PrintMore Go.Proofs.YtingkpnoiekliaaGreat.MWords Go.Proofs.YtingkpnoiekliaaGreat.MZ
set_option linter.unusedVariables false
set_option linter.unusedSimpArgs false
theorem Yo {lo hi:Nat} {A:Option Addr} {c:Nat} {L:List (List Int)} {W:World} {ok:Nat→Prop} (h:Foot (Lz lo hi (.slice A L.length c) L) W ok):Foot (fun W=>Kd.C (Kd.slice 5 (Kd.int .u8)) W A L.length L) W ok:=h.imp (fun W h=>Mz.S_C (Kd.kf h).2.2)
theorem MM {w:World} {b:List Int} {A:Option Addr} {c:Nat} {L:List (List Int)} {n:Int} (he:iF b=(L,n)) (iE:bJ b) (hl:b.length≤1048576) (gb:Kd.C (Kd.int .u8) w A b.length b) (lb:b.length≤c):Calls Tryz.prog 10 #[.slice A b.length c] w (fun e w'=>∃A2 c2,e = .returned (.tuple #[.slice A2 L.length c2,.int .i64 n])∧L.length≤c2∧Foot (fun W=>Kd.C (Kd.slice 5 (Kd.int .u8)) W A2 L.length L) w' (fun k=>w.heap.size≤k)∧Below w.heap.size w w'):=
 (ML he iE hl gb lb).mono (fun e w' ⟨v,he,hF,hb⟩=>by
  obtain⟨A2,c2,rfl⟩:=Kd.kF hF.now;exact⟨A2,c2,he,(Kd.kf hF.now).2.1,Yo hF,hb⟩)
theorem ae8 {w:World} {cs:Array Value} {d:Dk} {nm:ByteArray} {r:dG} {L:List (List Int)} (hr:sN d nm=(r,L)) (hd:cH cs d w) (hs:Small d.f0 d.f1 d.f2) (hl:∀x ∈ d.f0,x.f1.length≤1048576) (hbd:Bd d.f0) (hn:nm.size≤9223372036854775807):Calls Tryz.prog 7 #[.agg cs,.string nm] w (Pn w r L):=
 (ae7 hr hd hs hl hbd hn).mono (fun e w' ⟨cs',v,m,he,hm,hF,hL,hb⟩=>by
  obtain⟨A2,c2,rfl⟩:=Kd.kF hL;refine⟨cs',A2,c2,he,(Kd.kf hL).2.1,fun W hW=>⟨?_,?_⟩,hb⟩
  ·exact Yo (Dy hL) W (fun k hk=>hW k hk.1)
  ·exact(Fs.wD hF W (fun k hk=>hW k (Nat.le_trans hm hk))).bM)
theorem PW {b:List Int} {L:List (List Int)} {n:Int} (hb:bJ b) (hl:b.length≤1048576) (h:iF b=(L,n)) (i:Int):(vu L i).length≤1048576∧L.length≤1048576:=by
 have hi:=J0 hb (b.length+1) 0 (by omega) (by omega);unfold iF at h;rw[h]at hi;dsimp only at hi;refine⟨?_,by omega⟩;unfold vu;rw[List.getD_eq_getElem?_getD];cases hx:L[i.toNat]? with
 |none=>exact Nat.zero_le _
 |some y=>exact Nat.le_trans (hi.2.2.2 y (List.mem_of_getElem? hx)).1 hl
set_option maxHeartbeats 8000000 in
set_option maxRecDepth 100000 in
theorem ahg {w : World} {A : Option Addr} {c : Nat} {l : List Int} (hr : Kd.C (Kd.int .u8) w A l.length l) (hc : l.length ≤ c) : Calls Tryz.prog 3 #[.slice A l.length c] w (fun e w' => e = .returned (.bool true) ∧ Below w.heap.size w w') := by
  have HS := St.start w (fun _ => False)
  by_cases hl : (l.length : Int) > 1048576
  · have hd := J (decide_eq_true hl)
    go_enter Tryz.func3, Tryz.ntmps3
    go_wp2_with (first | ((with_reducible refine aH (f := 5) rfl ?_); refine bz Tryz.func5 (U2 hr hc) ?_; rintro e w1 ⟨rfl, hb⟩; refine ⟨_, rfl, ?_⟩; replace HS := HS.below hb; clear hb; rw [hd.1]))
    go_ret
    exact ⟨rfl, HS.be⟩
  have hd := J (decide_eq_false hl)
  have Jc : l.length ≤ 1048576 := by omega
  clear hl
  go_enter Tryz.func3, Tryz.ntmps3
  go_wp2_with (first | ((with_reducible refine aH (f := 5) rfl ?_); refine bz Tryz.func5 (U2 hr hc) ?_; rintro e w1 ⟨rfl, hb⟩; refine ⟨_, rfl, ?_⟩; replace HS := HS.below hb; clear hb; rw [hd.1]) | ((with_reducible refine aH (f := 6) rfl ?_); refine bz Tryz.func6 (ag7 (Kd.az hr HS.be) hc Jc) ?_; rintro e w1 ⟨cs, d, nm, rfl, hS, hR⟩; refine ⟨_, rfl, ?_⟩; replace HS := (HS.call hR.2 hR.1 nX).imp (fun _ h => h.2); clear hR; have jo := J (qV hS.2); replace hS := J hS.1; obtain ⟨⟨r, L⟩, hme⟩ : ∃ q, sN d nm = q := ⟨_, rfl⟩; have hgood := J (aly hS.1.2.2 hme); have hbad := J (alx hS.1.2.2 hme); replace hme := J hme) | ((with_reducible refine aM (N := 3) rfl ?_); refine bg 3 pK 27 ?_; intro g3 hg w1 hx hb; replace HS := HS.box hg hx hb rfl; clear hb hx hg) | ((with_reducible refine aM (N := 5) rfl ?_); refine bg 5 pK 27 ?_; intro g5 hg w1 hx hb; replace HS := HS.box hg hx hb rfl; clear hb hx hg) | ((with_reducible refine aM (N := 8) rfl ?_); refine bg 8 pK 27 ?_; intro g8 hg w1 hx hb; replace HS := HS.box hg hx hb rfl; clear hb hx hg) | ((with_reducible refine dM rfl ?_); (first | refine eP 0 HS HS.q ?_ | refine eP 0 HS HS.q.2.2 ?_ | refine eP 0 HS HS.q.2 ?_); intro w1 HT; replace HS := HT; clear HT; simp only [List.set] at HS) | (first | refine br 0 HS ?_ | refine br 1 HS ?_ | refine br 2 HS ?_ | refine br 3 HS ?_) | ((with_reducible refine H7 rfl ?_); refine kQ (by rfl) ?_; dsimp only; refine br 1 HS ?_) | ((with_reducible refine aH (f := 7) rfl ?_); refine bz Tryz.func7 (ae8 hme.1 HS.q hS.1.1 hS.1.2.1 hS.1.2.2 jo.1) ?_; rintro e w1 ⟨c1, A6, k6, rfl, WQ, hF, hb⟩; refine ⟨_, rfl, ?_⟩; have WQ := J WQ; replace HS := HS.call hb hF nX; clear hF hb) | ((with_reducible refine aH (f := 8) rfl ?_); refine bz Tryz.func8 (al8 hme.1 HS.q.1 hS.1.1 hS.1.2.1 hS.1.2.2 jo.1) ?_; rintro e w1 ⟨c8, A9, k9, rfl, hk9, hF, hb⟩; refine ⟨_, rfl, ?_⟩; replace HS := (HS.call hb hF nX).imp (fun _ h => And.intro h.1 h.2.2); clear hF hb hk9; by_cases h0 : r.2.2.2.2 = 0; (case' pos => (have Nz : (r.2.2.2.2 != 0) = false := bne_eq_false_iff_eq.2 h0; obtain ⟨b, n, nv, iE, hbl, hnl, hrec, hhas, hokb⟩ := hgood.1 h0; have hln : (b.take n).length = n := (by rw [List.length_take]; omega); have hrt : iF (b.take n) = (L, (n : Int)) := (al0 (m := n) iE (by rw [hrec])).trans hrec; have hnb : ((n : Int) != ((b.take n).length : Int)) = false := bne_eq_false_iff_eq.2 (by rw [hln]); have NA := iE.take n; obtain ⟨x, hx⟩ : ∃ x, b.take n = x := ⟨_, rfl⟩; rw [hx] at hln hrt hnb hhas NA; clear hx; replace hln := J hln; replace nv := J nv; replace hrec := J hrec; replace hrt := J hrt; replace hhas := J hhas; replace hokb := J hokb; replace hbad := J h0; clear h0)); (case' neg => (have Nz : (r.2.2.2.2 != 0) = true := bne_iff_ne.2 h0; obtain rfl := hbad.1 h0; clear h0))) | ((with_reducible refine aH (f := 9) rfl ?_); first | (refine bz Tryz.func9 (Db nv.1 HS.q.1.1 hS.1.1 hS.1.2.1) ?_; rintro e w1 ⟨Q2, k11, rfl, hR⟩; refine ⟨_, rfl, ?_⟩; have ajE := J hR.1; replace HS := HS.call hR.2.2 hR.2.1 nX; clear hR) | (refine bz Tryz.func9 (Db hhas.1.bytes HS.q.1.1.1.2.2 hokb.1.1.small.1 hokb.1.1.small.2) ?_; rintro e w1 ⟨KU, k15, rfl, hR⟩; refine ⟨_, rfl, ?_⟩; have ajF := J hR.1; replace HS := HS.call hR.2.2 hR.2.1 nX; clear hR)) | ((with_reducible refine aH (f := 10) rfl ?_); first | (refine bz Tryz.func10 (MM hrec.1 iE hbl HS.q.2 ajE.1) ?_; rintro e w1 ⟨B9, k13, rfl, hR, hF, hb⟩; refine ⟨_, rfl, ?_⟩; have av3 := J hR; replace HS := HS.call hb hF nX; clear hR hF hb) | (refine bz Tryz.func10 (MM hrt.1 NA (by rw [hln.1]; omega) HS.q.2 ajF.1) ?_; rintro e w1 ⟨xC, k17, rfl, hR, hF, hb⟩; refine ⟨_, rfl, ?_⟩; have av5 := J hR; replace HS := HS.call hb hF nX; clear hR hF hb)) | ((with_reducible refine aH (f := 11) rfl ?_); (try (refine kQ (by rfl) ?_; dsimp only)); refine bz Tryz.func11 (Dc HS.q.1.1.1.1.1.2.2 hokb.1.1.small.1) ?_; rintro e w1 ⟨rfl, hb⟩; refine ⟨_, rfl, ?_⟩; replace HS := HS.below hb; clear hb; rw [qn.2 hokb.1.1]))
  · go_ret
    exact ⟨rfl, HS.be⟩
  have sB := J hS.1
  replace HS := HS.imp (Q' := (fun W => ((Kd.C (Kd.slice 5 (Kd.int .u8)) W xC L.length L ∧ Kd.C (Kd.slice 5 (Kd.int .u8)) W B9 L.length L) ∧ Kd.C (Kd.slice 5 (Kd.int .u8)) W A6 L.length L) ∧ cH c1 (bR r) W)) (fun W h => And.intro (And.intro (And.intro h.2 h.1.1.2) h.1.1.1.1.1.2.1) h.1.1.1.1.1.2.2)
  go_loopg [19] L.length (fun kq v19 w' => ∃ (i : Nat), v19 = .int .i64 (i : Int) ∧ Aside0 (kq + i = L.length) ∧ St w (fun _ => False) [(g8, c8), (g5, c1), (g3, cs)] (fun W => ((Kd.C (Kd.slice 5 (Kd.int .u8)) W xC L.length L ∧ Kd.C (Kd.slice 5 (Kd.int .u8)) W B9 L.length L) ∧ Kd.C (Kd.slice 5 (Kd.int .u8)) W A6 L.length L) ∧ cH c1 (bR r) W) w')
  case atStart => exact ⟨0, rfl, ⟨rfl⟩, HS⟩
  case round =>
    clear HS
    obtain ⟨i, rfl, hi, HS⟩ := hrel
    cases gk with
    | zero =>
      have hz : decide ((i : Int) < (L.length : Int)) = false := decide_eq_false (by have := hi.1; omega)
      have q3 : ¬ i < L.length := by have := hi.1; omega
      have q4 := decide_eq_false q3
      obtain ⟨r2, e2⟩ : ∃ q, kg (bR r).f0 (bR r).f1 (bR r).f2 (bR r).f3 nm (gi [5]) = q := ⟨_, rfl⟩
      obtain ⟨YB, y, L2, n2, hy, hy8, hyl, hyr, hyL⟩ := alw hhas.1 hokb.1 NA hrt.1 hln.1 e2
      have hLl := (PW iE hbl hrec.1 0).2
      replace e2 := J e2; replace hy := J hy; replace hyr := J hyr
      clear hi
      by_cases h0 : r2.2.2.2.2 = 0
      case' pos => have h0c := bne_eq_false_iff_eq.2 h0; have hq : ((L2.length : Int) == wrap64 ((L.length : Int) + 1)) = true := beq_iff_eq.2 (by rw [hyL h0]; unfold wrap64; omega)
      case' neg => have h0c := bne_iff_ne.2 h0
      all_goals
        clear h0 hyL hLl
        go_wp2_with (first | (first | refine br 0 HS ?_ | refine br 1 HS ?_ | refine br 2 HS ?_ | refine br 3 HS ?_) | ((with_reducible refine aM (N := 139) rfl ?_); refine am6 [5] ?_; intro A5 k5 w1 hR; have l8 := J hR.1; replace HS := HS.call hR.2.2 hR.2.1 nX; clear hR) | ((with_reducible refine aH (f := 13) rfl ?_); refine bz Tryz.func13 (ae6 e2.1 HS.q.1.2 hokb.1.1.small.1 jo.1 hokb.1.1.small.2 (bJ.vo (by simp)) (by decide) HS.q.2 l8.1) ?_; rintro e w1 ⟨tF, rfl, hR⟩; refine ⟨_, rfl, ?_⟩; replace HS := (HS.call hR.2 hR.1 nX).imp (fun _ h => h.2.bM); clear hR) | ((with_reducible refine aM (N := 20) rfl ?_); refine bg 20 pK 27 ?_; intro g20 hg w1 hx hb; replace HS := HS.box hg hx hb rfl; clear hb hx hg) | ((with_reducible refine dM rfl ?_); refine eP 0 HS HS.q ?_; intro w1 HT; replace HS := HT; clear HT; simp only [List.set] at HS) | ((with_reducible refine aH (f := 9) rfl ?_); refine bz Tryz.func9 (Db hy.1 HS.q YB.1.small.1 YB.1.small.2) ?_; rintro e w1 ⟨A22, k22, rfl, hR⟩; refine ⟨_, rfl, ?_⟩; have ajG := J hR.1; replace HS := HS.call hR.2.2 hR.2.1 nX; clear hR) | ((with_reducible refine aH (f := 10) rfl ?_); refine bz Tryz.func10 (MM hyr.1 hy8 hyl HS.q.2 ajG.1) ?_; rintro e w1 ⟨Gw, k24, rfl, hR, hF, hb⟩; refine ⟨_, rfl, ?_⟩; replace HS := HS.below hb; clear hR hF hb))
        go_ret
        exact ⟨rfl, HS.be⟩
    | succ k1 =>
      have hz : decide ((i : Int) < (L.length : Int)) = true := decide_eq_true (by have := hi.1; omega)
      have q1 := eq_true (show (0 : Int) ≤ (i : Int) by omega)
      have q2 := eq_true (show (i : Int) < (L.length : Int) by have := hi.1; omega)
      obtain ⟨a17, B17, b17, rfl, vF, e17, r17⟩ := Mu HS.q.1.1.1 (i : Int) (by omega) (by have := hi.1; omega)
      obtain ⟨a13, B13, b13, rfl, x13, Uy, YK⟩ := Mu HS.q.1.1.2 (i : Int) (by omega) (by have := hi.1; omega)
      obtain ⟨a6, B6, b6, rfl, x6, e6, r6⟩ := Mu HS.q.1.2 (i : Int) (by omega) (by have := hi.1; omega)
      rw [Int.toNat_natCast] at vF x13 x6
      have hlen := (PW iE hbl hrec.1 (i : Int)).1
      have hLl := J (PW iE hbl hrec.1 0).2
      go_wp2
      refine ez (n := 22) (S := (fun W => W.cell? (a17.add i) = some (.slice B17 (vu L (i : Int)).length b17) ∧ W.cell? (a13.add i) = some (.slice B13 (vu L (i : Int)).length b13) ∧ W.cell? (a6.add i) = some (.slice B6 (vu L (i : Int)).length b6))) (ds := []) (mb 0 22) (by kernel_rfl) rfl rfl ⟨vF, x13, x6⟩ (fun hh => ?_); replace HS := HS.drew; have hB := J (tD (Below.refl wr.heap.size wr))
      refine rP 0 (mb 1 21) ?_
      refine rP 1 (mb 2 20) ?_
      refine rP 2 (mb 3 19) ?_
      refine rT 3 (mb 4 18) hh ?_
      refine rP 4 (mb 5 17) ?_
      refine rP 5 (mb 6 16) ?_
      refine rP 6 (mb 7 15) ?_
      refine rT 7 (mb 8 14) hh ?_
      refine rC 8 (mb 9 13) Tryz.func12 (Vp (Kd.az r17 hB.1) e17 (Kd.az YK hB.1) Uy hlen) ?_; rintro e w5 ⟨rfl, hb⟩; replace HS := HS.below hb; replace hB := J (aA hB.1 hb); refine ⟨_, rfl, ⟨mX hb hh.1, mX hb hh.2.1, mX hb hh.2.2⟩, fun hh => rN ?_⟩; clear hb
      refine rP 9 (mb 10 12) ?_
      refine rP 10 (mb 11 11) ?_
      refine rP 11 (mb 12 10) ?_
      refine rP 12 (mb 13 9) ?_
      refine rP 13 (mb 14 8) ?_
      refine rT 14 (mb 15 7) hh ?_
      refine rP 15 (mb 16 6) ?_
      refine rP 16 (mb 17 5) ?_
      refine rP 17 (mb 18 4) ?_
      refine rT 18 (mb 19 3) hh ?_
      refine rC 19 (mb 20 2) Tryz.func12 (Vp (Kd.az r6 hB.1) e6 (Kd.az YK hB.1) Uy hlen) ?_; rintro e w5 ⟨rfl, hb⟩; replace HS := HS.below hb; replace hB := J (aA hB.1 hb); refine ⟨_, rfl, ⟨mX hb hh.1, mX hb hh.2.1, mX hb hh.2.2⟩, fun hh => rN ?_⟩; clear hb
      refine rP 20 (mb 21 1) ?_
      refine rP 21 (mb 22 0) ?_
      refine eM (by kernel_rfl) ?_
      go_wp2
      go_roundg k1
      case measure => omega
      case rel => exact ⟨i + 1, congrArg (Value.int .i64) (by have := hi.1; have := hLl.1; unfold wrap64; omega), ⟨by have := hi.1; omega⟩, HS⟩
end Go.Proofs.YtingkpnoiekliaaGreat.MZ
end
