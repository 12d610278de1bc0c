/- Walks and plain laws, put together: no condition of their own. -/
import Derived.Test.YtingkpnoiekliaaGreatG6
import Derived.Test.YtingkpnoiekliaaGreatG4
import Derived.Test.YtingkpnoiekliaaGreatMZx8
import Derived.Test.YtingkpnoiekliaaGreatVAll
import Derived.Test.YtingkpnoiekliaaGreatG1
section
namespace Go.Proofs.YtingkpnoiekliaaGreat.MZ
open Go.RowKit Go.Proofs.YtingkpnoiekliaaGreatW.PrintWords Go.Proofs.YtingkpnoiekliaaGreatW.PrintLast Go.Proofs.YtingkpnoiekliaaGreatW.PrintMore Go.Proofs.YtingkpnoiekliaaGreat.MWords
set_option linter.unusedVariables false
set_option linter.unusedSimpArgs false
theorem YF (ds:List al) (ns ss:List aa) (nx:Int) (h0:ds.length≤1048576) (hd:∀x ∈ ds,x.f1.length≤4194304) (h1:ns.length≤1048576) (h2:ss.length≤1048576) (z1:∀e ∈ ns,e.f0.size≤9223372036854775807) (z2:∀e ∈ ss,e.f0.size≤9223372036854775807):Ev (fun k=>kD.f k ds ns ss nx) (bR ds ns ss nx):=⟨0,fun k _=>if_pos (xr.2 ⟨h0,hd,h1,h2,z1,z2⟩)⟩
theorem ZY (ds:List al) (ns ss:List aa) (nx:Int) (h0:ds.length≤1048576) (hd:∀x ∈ ds,x.f1.length≤4194304) (h1:ns.length≤1048576) (h2:ss.length≤1048576) (z1:∀e ∈ ns,e.f0.size≤9223372036854775807) (z2:∀e ∈ ss,e.f0.size≤9223372036854775807):Ev (fun k=>tz.f k ds ns ss nx) (bR ds ns ss nx):=⟨0,fun k _=>if_pos (xr.2 ⟨h0,hd,h1,h2,z1,z2⟩)⟩
theorem yQ (p:Nat→Bool):∀(d i:Nat),(∃j,i≤j∧j<i+d∧p j=true∧∀ {ρ:Type} (stop:Nat→ρ) (e:ρ),eT p stop e i d=stop j)∨((∀j,i≤j→j<i+d→p j=false)∧∀ {ρ:Type} (stop:Nat→ρ) (e:ρ),eT p stop e i d=e)
 |0,i=>Or.inr ⟨fun j h1 h2=>by omega,fun _ _=>rfl⟩
 |d+1,i=>by
  by_cases hp:p i=true
  ·exact Or.inl ⟨i,by omega,by omega,hp,fun stop e=>by simp only[eT];rw[if_pos hp]⟩
  ·rcases yQ p d (i+1) with ⟨j,h1,h2,h3,h4⟩|⟨h1,h2⟩
   ·exact Or.inl ⟨j,by omega,by omega,h3,fun stop e=>by simp only[eT];rw[if_neg hp];exact h4 stop e⟩
   ·refine Or.inr ⟨fun j a b=>?_,fun stop e=>by simp only[eT];rw[if_neg hp];exact h2 stop e⟩;by_cases hj:j=i
    ·subst hj;simpa using hp
    ·exact h1 j (by omega) (by omega)
theorem aal {a b:ByteArray} (h:a.toList=b.toList):a=b:=by
 rw[ByteArray.toList_eq,ByteArray.toList_eq]at h;exact ByteArray.ext (Array.toList_inj.1 h)
theorem VT {ds:List al} {l:List aa} (h:gZ ds l=true) (i:Nat) (hi:i<l.length):fv (aG l (i:Int)).f0=true∧0≤fo ds (aG l (i:Int)).f1:=by
 unfold gZ at h;rw[yP,Bool.and_eq_true]at h;have hb:=EJ _ _ (by simpa using h.1) i (by omega) (by omega);unfold na at hb;rw[Bool.or_eq_false_iff,Bool.or_eq_false_iff,Bool.or_eq_false_iff]at hb;obtain⟨⟨⟨h1,h2⟩,_⟩,_⟩:=hb;refine⟨by simpa using h1,?_⟩;have:=of_decide_eq_false h2;omega
theorem Ht {ds:List al} {id:Int} (h:0≤fo ds id):∃j,j<ds.length∧fo ds id=(j:Int)∧(ai ds (j:Int)).f0=id:=by
 unfold fo at h ⊢
 rcases yQ (fun i=>decide ((ai ds (i:Int)).f0=id)) ds.length 0 with ⟨j,_,h2,h3,h4⟩|⟨_,h2⟩
 ·exact⟨j,by omega,h4 _ _,by simpa using h3⟩
 ·rw[h2]at h;omega
theorem YO {ds:List al} {ns ss:List aa} {nx:Int} {i:Nat} (h:iW ds ns ss nx i=false):1≤(ai ds (i:Int)).f0∧0≤(ai ds (i:Int)).f2∧(ai ds (i:Int)).f2≤((ai ds (i:Int)).f1.length:Int):=by
 unfold iW at h;rw[Bool.or_eq_false_iff,Bool.or_eq_false_iff,Bool.or_eq_false_iff]at h;obtain⟨⟨⟨h1,h2⟩,_⟩,_⟩:=h;have a:=of_decide_eq_true (by simpa using h1:decide (1≤(ai ds (i:Int)).f0∧(ai ds (i:Int)).f0≤wrap64 (nx-1))=true);have b:=of_decide_eq_true (by simpa using h2:decide (0≤(ai ds (i:Int)).f2∧(ai ds (i:Int)).f2≤((ai ds (i:Int)).f1.length:Int))=true);exact⟨a.1,b⟩
theorem uq {ds:List al} {ns ss:List aa} {nx:Int} (h:bR ds ns ss nx=true):oE ds ns ss nx=true∧gZ ds ns=true∧gZ ds ss=true:=by
 unfold bR at h;simp only[Bool.and_eq_true]at h;exact⟨h.2.1,h.2.2.2.1,h.2.2.2.2⟩
theorem JG {β γ:Type} (L:Nat→List β→Nat→Option γ) (n:Nat) (p:Nat→Bool) (h:Nat→β) (fin:List β→γ)
 (Cs:∀(i:Nat) (out:List β) (r:γ),i<n→out.length≤i→p i=true→Ev (fun k=>L k (out++[h i]) (i+1)) r→Ev (fun k=>L k out i) r)
 (eW:∀(i:Nat) (out:List β) (r:γ),i<n→out.length≤i→p i=false→Ev (fun k=>L k out (i+1)) r→Ev (fun k=>L k out i) r)
 (he:∀out:List β,out.length≤n→Ev (fun k=>L k out n) (fin out)):Ev (fun k=>L k [] 0) (fin (((List.range n).filter p).map h)):=by
 have key:∀(d i:Nat),i+d=n→Ev (fun k=>L k (((List.range i).filter p).map h) i) (fin (((List.range n).filter p).map h)):=by
  intro d
  induction d with
  |zero=>
   intro i hi;have:i=n:=by omega
   subst this;exact he _ (by rw[List.length_map];exact Nat.le_trans (List.length_filter_le _ _) (by simp))
  |succ d ih=>
   intro i hi;have hl:(((List.range i).filter p).map h).length≤i:=by rw[List.length_map];exact Nat.le_trans (List.length_filter_le _ _) (by simp)
   have hn:=ih (i+1) (by omega);rw[List.range_succ,List.filter_append,List.map_append]at hn;cases hp:p i
   ·refine eW i _ _ (by omega) hl hp ?_;simpa[hp] using hn
   ·refine Cs i _ _ (by omega) hl hp ?_;simpa[hp] using hn
 exact key n 0 (by omega)
theorem R5 (ds:List al):(List.range ds.length).map (fun (i:Nat)=>ai ds (i:Int))=ds:=by
 have:=Lf ds (fun x=>x) gV;rw[List.map_id']at this;exact this
theorem Y0 (ds:List al) (ns ss:List aa) (nx:Int) (h0:ds.length≤1048576) (hd:∀x ∈ ds,x.f1.length≤4194304) (h1:ns.length≤1048576) (h2:ss.length≤1048576):Ev (fun k=>dP.f k ds ns ss nx) (ds,ns,ss,nx):=by
 have loop:=JG (fun k out i=>dP.U k (i:Int) ds ns ss nx out ns ss nx) ds.length (fun _=>true) (fun (i:Nat)=>ai ds (i:Int)) (fun out=>(out,ns,ss,nx)) (fun i out r hi ho _ h=>?_) (fun i out r hi ho hp h=>by simp at hp) (fun out ho=>?_)
 ·rw[List.filter_eq_self.2 (fun _ _=>rfl),R5]at loop;refine Ev.congr (fun k=>?_) loop;simp only[dP.f,Option.bind_some,List.nil_append,List.length_nil];rw[if_pos (by omega),if_pos (by omega)];rfl
 ·have hm:=hd _ (sI hi);refine Ev.step (fun k=>?_) h;simp only[dP.U,Option.bind_some,List.nil_append,List.length_nil];rw[if_pos (by omega),if_pos (by omega),if_pos (by omega),if_pos (by omega),fM (n:=ds.length) hi (by omega)]
 ·refine Ev.ends (fun k=>?_);simp only[dP.U];rw[if_neg (by omega)]
theorem afI (ds:List al) (ns ss:List aa) (nx:Int) (h0:ds.length≤1048576) (hd:∀x ∈ ds,x.f1.length≤4194304) (h1:ns.length≤1048576) (h2:ss.length≤1048576):Ev (fun k=>fi.f k ds ns ss nx) (ds,ns,ss,nx):=by
 have loop:=JG (fun k out i=>fi.U k ds (ds.length:Int) (i:Int) out ns ss nx) ds.length (fun _=>true) (fun (i:Nat)=>ai ds (i:Int)) (fun out=>(out,ns,ss,nx)) (fun i out r hi ho _ h=>?_) (fun i out r hi ho hp h=>by simp at hp) (fun out ho=>?_)
 ·rw[List.filter_eq_self.2 (fun _ _=>rfl),R5]at loop;refine Ev.congr (fun k=>?_) loop;simp only[fi.f,List.nil_append,List.length_nil];rw[if_pos (by omega),if_pos (by omega)];rfl
 ·have hm:=hd _ (sI hi);refine Ev.step (fun k=>?_) h;simp only[fi.U,wX.f,List.nil_append,List.length_nil];rw[if_pos (by omega),if_pos (by omega),if_pos (by omega),if_pos (by omega),Option.bind_some,if_pos (by omega),fM (n:=ds.length) hi (by omega)]
 ·refine Ev.ends (fun k=>?_);simp only[fi.U];rw[if_neg (by omega)]
def kept (ds:List al) (ns ss:List aa):List al:=((List.range ds.length).filter (fun (i:Nat)=>named ns (ai ds (i:Int)).f0 || named ss (ai ds (i:Int)).f0)).map (fun (i:Nat)=>ai ds (i:Int))
theorem alL (ds:List al) (ns ss:List aa):(kept ds ns ss).length≤ds.length:=by
 unfold kept;rw[List.length_map];exact Nat.le_trans (List.length_filter_le _ _) (by simp)
theorem YX {ds:List al} {ns ss:List aa} {x:al} (h:x ∈ kept ds ns ss):x ∈ ds:=by
 obtain⟨i,hi,rfl⟩:=List.mem_map.1 h;exact sI (by simpa using (List.mem_filter.1 hi).1)
abbrev dy:=List al × List aa × List aa × Int × Int
def iT (d0:List al) (n0 s0:List aa) (x0:Int) (ds:List al) (ns ss:List aa) (nx:Int):dy:=
 if bR (kept ds ns ss) ns ss nx=true then (kept ds ns ss,ns,ss,nx,0) else (d0,n0,s0,x0,4)
theorem Small.kept {ds:List al} {ns ss:List aa} (h:Small ds ns ss):Small (kept ds ns ss) ns ss:=⟨Nat.le_trans (alL ds ns ss) h.h0,fun x hx=>h.hd x (YX hx),h.h1,h.h2,h.z1,h.z2⟩
theorem JI {α:Type} {d:Kd α} {e:Nat} {w:World} {base:Nat} {ok:Nat→Prop} {v:Value} {xs:List α} (h:d.R e w base ok v xs):Foot (fun W=>d.R e W base ok v xs) w ok:=fun W hW=>Kd.nI h hW
theorem uu {α:Type} {d:Kd α} {e:Nat} {w:World} {base:Nat} {ok:Nat→Prop} {v:Value} {xs:List α} (h:Kd.S d e w base ok v xs):Foot (fun W=>Kd.S d e W base ok v xs) w ok:=fun W hW=>Kd.D5 h hW
def o3 (b:Nat) (v0 v1 v2:Value) (d:Dk) (W:World):Prop:=Kd.S bc 63 W b (fun k=>b≤k) v0 d.f0∧Kd.R an 89 W b (fun k=>b≤k∧some k≠v2.ownBlock) v1 d.f1∧Kd.R an 89 W b (fun k=>b≤k∧some k≠v1.ownBlock) v2 d.f2
theorem Sa {w:World} {cs:Array Value} {d:Dk} (hd:cO cs d w) (hs:Small d.f0 d.f1 d.f2):Calls Tryz.prog 31 #[.agg cs] w (fun e w'=>∃v0 v1 v2,e = .returned (.agg #[v0,v1,v2,.int .i64 d.f3])∧Foot (o3 w.heap.size v0 v1 v2 d) w' (fun k=>w.heap.size≤k)∧Below w.heap.size w w'):=by
 obtain⟨K,hk⟩:=Y0 d.f0 d.f1 d.f2 d.f3 hs.h0 hs.hd hs.h1 hs.h2;obtain⟨A0,c0,A1,c1,A2,c2,rfl,U,g0,l1,g1,l2,g2⟩:=hd.open;refine(dP.calls K _ _ _ _ _ _ _ _ _ _ _ _ _ _ w g0 U g1 l1 g2 l2 (hk K (Nat.le_refl _))).mono (fun e w' ⟨v0,v1,v2,he,h0,h1,h2,hb⟩=>⟨v0,v1,v2,he,fun W hW=>⟨?_,?_,?_⟩,hb⟩)
 ·exact uu (Kd.dj (Kd.kS h0) (fun k hk=>hk.2.1)) W hW
 ·exact JI (Kd.aK (Kd.iR h1) (fun k hk=>⟨hk.2.1,hk.1⟩)) W (fun k hk=>hW k hk.1)
 ·exact JI (Kd.aK (Kd.iR h2) (fun k hk=>⟨hk.2.1,hk.1⟩)) W (fun k hk=>hW k hk.1)
theorem o3.lower {b b':Nat} {v0 v1 v2:Value} {d:Dk} {W:World} (h:o3 b v0 v1 v2 d W) (hb:b'≤b):o3 b' v0 v1 v2 d W:=
 ⟨Kd.l6 (Kd.dj h.1 (fun k hk=>Nat.le_trans hb hk)) hb,Kd.cg (Kd.aK h.2.1 (fun k hk=>⟨Nat.le_trans hb hk.1,hk.2⟩)) hb,Kd.cg (Kd.aK h.2.2 (fun k hk=>⟨Nat.le_trans hb hk.1,hk.2⟩)) hb⟩
theorem o3.cm {b:Nat} {v0 v1 v2:Value} {d:Dk} {W:World} (h:o3 b v0 v1 v2 d W):cO #[v0,v1,v2,.int .i64 d.f3] d W:=by
 obtain⟨A1,c1,rfl,l1,g1⟩:=Kd.oY h.2.1;obtain⟨A2,c2,rfl,l2,g2⟩:=Kd.oY h.2.2;obtain⟨A0,c0,rfl⟩:=Kd.jv h.1;have r:=Kd.iI h.1;exact uL W d r.2.1 r.2.2 l1 g1 l2 g2
set_option maxHeartbeats 8000000 in
set_option maxRecDepth 100000 in
theorem ZM {w:World} {c0:Array Value} {d0 d1:Dk} {P:Nat→Prop} {A3 A4 A5:Option Addr} {c3 c4 c5:Nat} (h0:cO c0 d0 w) (hF:Kd.F bc w (fun k=>P k∧k<w.heap.size) A3 d1.f0.length d1.f0) (l3:d1.f0.length≤c3) (r4:Kd.C an w A4 d1.f1.length d1.f1) (l4:d1.f1.length≤c4) (r5:Kd.C an w A5 d1.f2.length d1.f2) (l5:d1.f2.length≤c5) (s0:Small d0.f0 d0.f1 d0.f2) (s1:Small d1.f0 d1.f1 d1.f2) :
 Calls Tryz.prog 95 #[.agg c0,.agg #[.slice A3 d1.f0.length c3,.slice A4 d1.f1.length c4,.slice A5 d1.f2.length c5,.int .i64 d1.f3]] w (fun e w'=>Below w.heap.size w w' ∧
  ((bR (kept d1.f0 d1.f1 d1.f2) d1.f1 d1.f2 d1.f3=true∧∃v,e = .returned (.tuple #[.agg #[v,.slice A4 d1.f1.length c4,.slice A5 d1.f2.length c5,.int .i64 d1.f3],.int .i64 0])∧Kd.N bc 63 w' w.heap.size (fun k=>(P k∧k<w.heap.size)∨w.heap.size≤k) v (kept d1.f0 d1.f1 d1.f2)) ∨
   (¬bR (kept d1.f0 d1.f1 d1.f2) d1.f1 d1.f2 d1.f3=true∧∃v0 v1 v2,e = .returned (.tuple #[.agg #[v0,v1,v2,.int .i64 d0.f3],.int .i64 4])∧o3 w.heap.size v0 v1 v2 d0 w'))):=by
 have HS:=St.start w (fun _=>False);have h4:=h0.size;obtain⟨z,hk⟩:∃z,bR (kept d1.f0 d1.f1 d1.f2) d1.f1 d1.f2 d1.f3=z:=⟨_,rfl⟩;rw[hk];replace hk:=J hk;cases z
 all_goals
  go_enter Tryz.func95,Tryz.ntmps95;go_wp2_with (first|((with_reducible refine aH (N:=2) rfl ?_);refine aT 2 c0 27 ?_;intro bx2 hg w1 hx hb;have ap5:=Nat.le_trans HS.be.size (Nat.le_of_eq hg.symm);replace HS:=HS.box hg hx hb h4;clear hb hx hg)|((with_reducible refine aH (N:=3) rfl ?_);refine aT 3 #[.slice A3 d1.f0.length c3,.slice A4 d1.f1.length c4,.slice A5 d1.f2.length c5,.int .i64 d1.f3] 27 ?_;intro bx3 hg w1 hx hb;have ap6:=Nat.le_trans HS.be.size (Nat.le_of_eq hg.symm);replace HS:=HS.box hg hx hb rfl;clear hb hx hg)|((with_reducible refine aH (N:=4) rfl ?_);refine aT 4 #[.slice none 0 0,.slice none 0 0,.slice none 0 0,.int .i64 0] 27 ?_;intro Om hg w1 hx hb;have ap7:=Nat.le_trans HS.be.size (Nat.le_of_eq hg.symm);replace HS:=HS.box hg hx hb rfl;clear hb hx hg)|(first|refine bu 0 HS ?_|refine bu 1 HS ?_|refine bu 2 HS ?_)|((with_reducible refine aJ (f:=99) rfl ?_);have m4:=eF (HS.bx _ (.head _)).2.2;have m3:=eF (HS.bx _ (.tail _ (.head _))).2.2;have m2:=eF (HS.bx _ (.tail _ (.tail _ (.head _)))).2.2;have hz:=HS.be.size;refine bP Tryz.func99 (amL (d:=d1) (Foot.step hF (fun k _ hk=>HS.be.block k hk)) l3 (Kd.aw r4 HS.be) l4 (Kd.aw r5 HS.be) l5 s1.h0 s1.h1 s1.h2) ?_;rintro e w1 ⟨v,rfl,hN,hb⟩;refine⟨_,rfl,?_⟩;obtain⟨A,c,rfl⟩:=Kd.yp hN;replace HS:=((HS.below hb).and (Q':=fun W=>Kd.N bc 63 W w.heap.size (fun k=>(P k∧k<w.heap.size)∨(w.heap.size≤k∧k≠bx2∧k≠bx3∧k≠Om)) (.slice A (kept d1.f0 d1.f1 d1.f2).length c) (kept d1.f0 d1.f1 d1.f2)) ((Pp (Kd.Bt (Kd.ke hN (fun k hk=>hk.elim (fun h=>Or.inl h.1) (fun h=>Or.inr (by simp only at m2 m3 m4;omega)))) hz)).mono (fun k hk=>⟨fun h=>h,fun b hm e=>by simp only[List.mem_cons,List.not_mem_nil,or_false]at hm;rcases hk with hk|hk<;>rcases hm with rfl|rfl|rfl<;>simp only at e<;>omega⟩))).imp (fun _ h=>h.2);clear hN hb m2 m3 m4 hz)|((with_reducible refine aJ (f:=71) rfl ?_);refine bP Tryz.func71 (Sb (d:=⟨kept d1.f0 d1.f1 d1.f2,d1.f1,d1.f2,d1.f3⟩) (uL _ ⟨kept d1.f0 d1.f1 d1.f2,d1.f1,d1.f2,d1.f3⟩ (Kd.pT HS.q).2.1 (Kd.pT HS.q).2.2 l4 (Kd.aw r4 HS.be) l5 (Kd.aw r5 HS.be)) s1.kept) ?_;rintro e w1 ⟨rfl,hb⟩;refine⟨_,rfl,?_⟩;replace HS:=HS.below hb;clear hb;rw[hk.1])|((with_reducible refine aJ (f:=31) rfl ?_);refine bP Tryz.func31 (Sa (dO h0 HS.be) s0) ?_;rintro e w1 ⟨x0,x1,x2,rfl,hR,hb⟩;have hz:=HS.be.size;refine⟨_,rfl,?_⟩;replace HS:=(HS.call hb hR (fun _ _ h=>h)).imp (fun _ h=>h.2.lower hz);clear hR hb)|((with_reducible refine ej rfl ?_);(first|refine dQ 1 HS (cs':=#[.slice A (kept d1.f0 d1.f1 d1.f2).length c,.slice A4 d1.f1.length c4,.slice A5 d1.f2.length c5,.int .i64 d1.f3]) (uL _ ⟨kept d1.f0 d1.f1 d1.f2,d1.f1,d1.f2,d1.f3⟩ (Kd.pT HS.q).2.1 (Kd.pT HS.q).2.2 l4 (Kd.aw r4 HS.be) l5 (Kd.aw r5 HS.be)) ?_|refine dQ 0 HS (cs':=#[.slice A (kept d1.f0 d1.f1 d1.f2).length c,.slice A4 d1.f1.length c4,.slice A5 d1.f2.length c5,.int .i64 d1.f3]) (uL _ ⟨kept d1.f0 d1.f1 d1.f2,d1.f1,d1.f2,d1.f3⟩ (Kd.pT HS.q).2.1 (Kd.pT HS.q).2.2 l4 (Kd.aw r4 HS.be) l5 (Kd.aw r5 HS.be)) ?_|refine dQ 0 HS HS.q.cm ?_);intro w1 HT;replace HS:=HT;clear HT;simp only[List.set]at HS))
 ·exact bodyPost_ret (hG rfl _ _ Om 27 _ (0,0) _ rfl (HS.bx _ (.head _)).2.2 Tryz.underlying27 rfl (by rw[Tryz.gT];rfl)) rfl ⟨HS.be,Or.inr ⟨by first|trivial|decide,_,_,_,rfl,HS.q⟩⟩
 ·exact bodyPost_ret (hG rfl _ _ Om 27 _ (0,0) _ rfl (HS.bx _ (.head _)).2.2 Tryz.underlying27 rfl (by rw[Tryz.gT];rfl)) rfl ⟨HS.be,Or.inl ⟨by first|trivial|rfl,_,rfl,Kd.ke HS.q (fun k hk=>hk.elim Or.inl (fun h=>Or.inr h.1))⟩⟩
def anj.f (_k:Nat) (a:List al) (b c:List aa) (n:Int):Option (List al × List aa × List aa × Int):=if a.length≤1048576∧b.length≤1048576∧c.length≤1048576 then some (kept a b c,b,c,n) else none
def sK.f (_k:Nat) (a:List al) (b c:List aa) (n:Int) (a':List al) (b' c':List aa) (n':Int):Option dy:=if CL a b c=true∧CL a' b' c'=true then some (iT a b c n a' b' c' n') else none
theorem aap {w w':World} {b:Nat} {P P':Nat→Prop} {u v:Value} {l m:List aa} (g:Kd.R an 89 w b P u l) (g':Kd.R an 89 w b P' v m) (hp:∀k,P k→¬P' k) (hb:Below w.heap.size w w'):Kd.R an 89 w' b (fun k=>P k∧some k≠v.ownBlock) u l:=
 Kd.aK (Kd.bD (Kd.kf rfl g) hb) (fun k hk=>⟨g.1 k hk.symm,fun e=>hp k (g.1 k hk.symm) (g'.1 k e.symm)⟩)
theorem sK.calls (k:Nat) (aE:Option Addr) (av:Nat) (ab:List (al)) (aq:Option Addr) (ao:Nat) (af:List (aa)) (aC:Option Addr) (aD:Nat) (aj:List (aa)) (ak:Int) (UP:Nat→Prop) (oa:Option Addr) (oA:Nat) (gR:List (al)) (rD:Nat→Prop) (gM:Value) (dU:List (aa)) (rE:Nat→Prop) (xw:Value) (ix:List (aa)) (ji:Int) (r1:List (al)) (r2:List (aa)) (r3:List (aa)) (r4:Int) (r5:Int) (w0 w:World) (hB:Below w0.heap.size w0 w) (cI:∀W_,Kept w W_ (fun k_=>rD k_∨rE k_)→Kd.C bc W_ aE ab.length ab) (cG:ab.length≤av) (cr:∀W_,Kept w W_ (fun k_=>rD k_∨rE k_)→Kd.C an W_ aq af.length af) (cq:af.length≤ao) (cJ:∀W_,Kept w W_ (fun k_=>rD k_∨rE k_)→Kd.C an W_ aC aj.length aj) (cH:aj.length≤aD) (X3:Kd.V bc 63 w w0.heap.size (fun k_=>UP k_∧some k_≠(gM:Value).ownBlock∧some k_≠(xw:Value).ownBlock) (.slice oa gR.length oA) gR) (KD:Kd.R an 89 w w0.heap.size rD gM dU) (akP:∀k_,rD k_→¬rE k_) (KE:Kd.R an 89 w w0.heap.size rE xw ix) (akQ:∀k_,rE k_→¬rD k_) (h:sK.f k ab af aj ak gR dU ix ji=some (r1,r2,r3,r4,r5)) :
 Calls Tryz.prog 95 #[.agg #[.slice aE ab.length av,.slice aq af.length ao,.slice aC aj.length aD,.int .i64 ak],.agg #[.slice oa gR.length oA,gM,xw,.int .i64 ji]] w fun e w'=>∃cf dt dF:Value,e = .returned (.tuple #[.agg #[cf,dt,dF,.int .i64 r4],.int .i64 r5])∧Kd.N bc 63 w' w.heap.size (fun k_=>((rD k_∨rE k_∨UP k_)∨w.heap.size≤k_)∧some k_≠(dt:Value).ownBlock∧some k_≠(dF:Value).ownBlock) cf r1∧Kd.R an 89 w' w0.heap.size (fun k_=>((rD k_∨rE k_)∨w.heap.size≤k_)∧some k_≠(dF:Value).ownBlock) dt r2∧Kd.R an 89 w' w0.heap.size (fun k_=>((rD k_∨rE k_)∨w.heap.size≤k_)∧some k_≠(dt:Value).ownBlock) dF r3∧Below w0.heap.size w0 w'∧Kept w w' (fun k_=>rD k_∨rE k_):=by
 obtain⟨A1,c1,rfl,m1,q1⟩:=Kd.oY KD;obtain⟨A2,c2,rfl,m2,q2⟩:=Kd.oY KE;have hv:=Kd.U8 X3;have hw:=hB.size;unfold sK.f at h;split at h
 ·rename_i hl;have h0:=Kept.refl w (fun k_=>rD k_∨rE k_);have hh:=Option.some.inj h;refine(ZM (d0:=⟨ab,af,aj,ak⟩) (d1:=⟨gR,dU,ix,ji⟩) (uL w ⟨ab,af,aj,ak⟩ cG (cI w h0) cq (cr w h0) cH (cJ w h0)) (Kd.Mt (Kd.V_F X3)) hv.2.1 q1 m1 q2 m2 (xr.1 hl.1) (xr.1 hl.2)).mono (fun e w' ⟨hb,hq⟩=>?_)
  rcases hq with ⟨hz,v,he,hN⟩|⟨hz,x0,x1,x2,he,hR⟩
  ·rw[show iT ab af aj ak gR dU ix ji=(kept gR dU ix,dU,ix,ji,0) from if_pos hz]at hh;simp only[Prod.mk.injEq]at hh;obtain⟨rfl,rfl,rfl,rfl,rfl⟩:=hh;refine⟨v,_,_,he,Kd.ke hN (fun k hk=>?_),Kd.aK (aap KD KE akP hb) (fun k hk=>⟨Or.inl (Or.inl hk.1),hk.2⟩),Kd.aK (aap KE KD akQ hb) (fun k hk=>⟨Or.inl (Or.inr hk.1),hk.2⟩),ar hB hb,Kept.nr hb _⟩
   rcases hk with hk|hk
   ·exact⟨Or.inl (Or.inr (Or.inr hk.1.1)),hk.1.2⟩
   ·exact⟨Or.inr hk,fun e=>by have:=Kd.eK KD k e.symm;omega,fun e=>by have:=Kd.eK KE k e.symm;omega⟩
  ·rw[show iT ab af aj ak gR dU ix ji=(ab,af,aj,ak,4) from if_neg hz]at hh;simp only[Prod.mk.injEq]at hh;obtain⟨rfl,rfl,rfl,rfl,rfl⟩:=hh;exact⟨x0,x1,x2,he,Kd.ke (Kd.By (Kd.o4 (Kd.o4 hR.1 (Kd.fb hR.2.1) (by decide)) (Kd.fb hR.2.2) (by decide))) (fun k hk=>⟨Or.inr hk.1.1,hk.1.2,hk.2⟩),Kd.cg (Kd.aK hR.2.1 (fun k hk=>⟨Or.inr hk.1,hk.2⟩)) hw,Kd.cg (Kd.aK hR.2.2 (fun k hk=>⟨Or.inr hk.1,hk.2⟩)) hw,ar hB hb,Kept.nr hb _⟩
 ·cases h
end Go.Proofs.YtingkpnoiekliaaGreat.MZ
end
section

end
section
namespace Go.Proofs.YtingkpnoiekliaaGreat.MZ
open Go.RowKit Go.Proofs.YtingkpnoiekliaaGreatW.PrintWords Go.Proofs.YtingkpnoiekliaaGreatW.PrintLast Go.Proofs.YtingkpnoiekliaaGreatW.PrintMore Go.Proofs.YtingkpnoiekliaaGreat.MWords
attribute [local go_sem] max2_int min2_int max_two min_two max_three min_three max_four min_four
set_option linter.unusedVariables false
set_option linter.unusedSimpArgs false
mutual
def dw.U:Nat→List (aa)→List (aa)→Bool→Int→ByteArray→Int→Option ((List (aa)))
 |0,_,_,_,_,_,_=>none
 |k+1,x0,x5,x6,x7,rh,tI=>if x7<(x0.length:Int) then (if x6=true then (dw.j1 k x0 x5 x6 x7 false rh tI) else (if 0≤x7 then (dw.j1 k x0 x5 x6 x7 (!(Op.bytesLess (((aG x0 x7).f0).toList) rh.toList)) rh tI) else (none))) else (if x6=true then (some x5) else (if x5.length<5864062014805 then (some (x5++[(⟨rh,tI⟩:aa)])) else (none)))
def dw.j1:Nat→List (aa)→List (aa)→Bool→Int→Bool→ByteArray→Int→Option ((List (aa)))
 |0,_,_,_,_,_,_,_=>none
 |k+1,x0,x5,x6,x7,x26,rh,tI=>if x26=true then (if x5.length<5864062014805 then (dw.j2 k x0 (x5++[(⟨rh,tI⟩:aa)]) true x7 rh tI) else (none)) else (dw.j2 k x0 x5 x6 x7 rh tI)
def dw.j2:Nat→List (aa)→List (aa)→Bool→Int→ByteArray→Int→Option ((List (aa)))
 |0,_,_,_,_,_,_=>none
 |k+1,x0,x5,x6,x7,rh,tI=>if 0≤x7 then (if x7<(x0.length:Int) then (if ((aG x0 x7).f0).toList=rh.toList then (dw.U k x0 x5 x6 (wrap64 (x7+1)) rh tI) else (if x5.length<5864062014805 then (dw.U k x0 (x5++[(⟨(aG x0 x7).f0,(aG x0 x7).f1⟩:aa)]) x6 (wrap64 (x7+1)) rh tI) else (none))) else (none)) else (none)
end
def dw.f (k:Nat) (U:List (aa)) (bS:ByteArray) (cF:Int):Option ((List (aa))):=dw.U k U (([]:List (aa))) false 0 bS cF
set_option maxHeartbeats 8000000 in
set_option maxRecDepth 100000 in
theorem dw.calls (k:Nat) (A0:Option Addr) (c0:Nat) (U:List (aa)) (bS:ByteArray) (cF:Int) (r:List (aa)) (w:World) (bJ:Kd.C an w A0 U.length U) (bz:U.length≤c0) (h:dw.f k U bS cF=some r) :
 Calls Tryz.prog 94 #[.slice A0 U.length c0,.agg #[.string bS,.int .i64 cF]] w fun e w'=>∃cf:Value,e = .returned (cf)∧Kd.R an 89 w' w.heap.size (fun _=>True) cf r∧Below w.heap.size w w':=by
 have zl:=Tryz.underlying89;have bB:=J bJ;have eb:=J bz;clear bJ bz;have HB:=J (Below.refl w.heap.size w);have H:(dw.U k U (([]:List (aa))) false 0 bS cF)=some r:=h;clear h;obtain⟨aaW,G5⟩:∃y_:List (aa),y_=(([]:List (aa))):=⟨_,rfl⟩;replace H:(dw.U k U aaW false 0 bS cF)=some r:=by first|(rw[G5];with_reducible exact H)|(have aM:=(Option.bind_some _ _).symm.trans H;rw[G5];with_reducible exact aM)|(have aM:=(Option.bind_some _ _).symm.trans H;with_reducible exact aM)|with_reducible exact H|(rw[G5];exact H)|exact H
 have Bv:=J G5;clear G5;have H':=J H;clear H;go_enter Tryz.func94,Tryz.ntmps94;go_wp2_with (first|((with_reducible refine aH (N:=3) rfl ?_);refine aT 3 #[.string bS,.int .i64 cF] 89 ?_;intro fH hg w3 hbox hb;have dx:=J (hbox);have Tu:=mG hg (mH HB.1);have ga:=mG hg (mH HB.1);replace HB:=J (ar (mH HB.1) hb);clear hb hbox hg)|((with_reducible refine aH (N:=8) rfl ?_);refine Kd.kR an _ 89 ?hg (N:=8) ?hd (xs:=([]:List (aa))) (inner:=[]) (ok:=fun _=>True) (okp:=fun _=>True) ?hr ?hp (fun _ hk=>hk) trivial (Below.refl _ _) (Nat.le_refl _) (by simp) ?_;(case hd=>rfl);(case hg=>rfl);(case hr=>first|(go_simp;done)|(go_simp;rfl));(case hp=>exact(bw.none _ _));intro aav w4 gw hb hg_ hnew_;clear hg_ hnew_;(first|rw[←Bv.1]at gw|(simp only[Int.reduceToNat]at gw;rw[←Bv.1]at gw));have MT:=J (Kd.cg (Kd.ub gw (g:=fH) (o:=.cells #[.string bS,.int .i64 cF] 89 (0,0)) (mK dx.1)) (bl (aI HB.1 ga.1)));replace dx:=mB dx hb;replace HB:=J (ar (aI HB.1 ga.1) hb);clear hb gw))
 repeat (go_quiet (first|((with_reducible refine aH (N:=3) rfl ?_);refine aT 3 #[.string bS,.int .i64 cF] 89 ?_;intro fH hg w3 hbox hb;have dx:=J (hbox);have Tu:=mG hg (mH HB.1);have ga:=mG hg (mH HB.1);replace HB:=J (ar (mH HB.1) hb);clear hb hbox hg)|((with_reducible refine aH (N:=8) rfl ?_);refine Kd.kR an _ 89 ?hg (N:=8) ?hd (xs:=([]:List (aa))) (inner:=[]) (ok:=fun _=>True) (okp:=fun _=>True) ?hr ?hp (fun _ hk=>hk) trivial (Below.refl _ _) (Nat.le_refl _) (by simp) ?_;(case hd=>rfl);(case hg=>rfl);(case hr=>first|(go_simp;done)|(go_simp;rfl));(case hp=>exact(bw.none _ _));intro aav w4 gw hb hg_ hnew_;clear hg_ hnew_;(first|rw[←Bv.1]at gw|(simp only[Int.reduceToNat]at gw;rw[←Bv.1]at gw));have MT:=J (Kd.cg (Kd.ub gw (g:=fH) (o:=.cells #[.string bS,.int .i64 cF] 89 (0,0)) (mK dx.1)) (bl (aI HB.1 ga.1)));replace dx:=mB dx hb;replace HB:=J (ar (aI HB.1 ga.1) hb);clear hb gw));try go_wp2_with (first|((with_reducible refine aH (N:=3) rfl ?_);refine aT 3 #[.string bS,.int .i64 cF] 89 ?_;intro fH hg w3 hbox hb;have dx:=J (hbox);have Tu:=mG hg (mH HB.1);have ga:=mG hg (mH HB.1);replace HB:=J (ar (mH HB.1) hb);clear hb hbox hg)|((with_reducible refine aH (N:=8) rfl ?_);refine Kd.kR an _ 89 ?hg (N:=8) ?hd (xs:=([]:List (aa))) (inner:=[]) (ok:=fun _=>True) (okp:=fun _=>True) ?hr ?hp (fun _ hk=>hk) trivial (Below.refl _ _) (Nat.le_refl _) (by simp) ?_;(case hd=>rfl);(case hg=>rfl);(case hr=>first|(go_simp;done)|(go_simp;rfl));(case hp=>exact(bw.none _ _));intro aav w4 gw hb hg_ hnew_;clear hg_ hnew_;(first|rw[←Bv.1]at gw|(simp only[Int.reduceToNat]at gw;rw[←Bv.1]at gw));have MT:=J (Kd.cg (Kd.ub gw (g:=fH) (o:=.cells #[.string bS,.int .i64 cF] 89 (0,0)) (mK dx.1)) (bl (aI HB.1 ga.1)));replace dx:=mB dx hb;replace HB:=J (ar (aI HB.1 ga.1) hb);clear hb gw)))
 go_loopg [5,6,7] k (fun kq v5 v6 v7 w'=>∃(ah:List (aa)) (fJ:Bool) (cy:Int),v6 = .bool fJ∧v7 = .int .i64 cy∧Aside0 (dw.U kq U ah fJ cy bS cF=some r)∧Aside0 (kq≤k)∧Aside0 (Kd.R an 89 w' w.heap.size (fun k_=>k_≠fH) v5 ah)∧Aside0 (w'.heap[fH]? = some (.cells #[.string bS,.int .i64 cF] 89 (0,0)))∧Aside0 (Below w.heap.size w w'))
 case atStart=>exact⟨(aaW),(false),(0),mE,mE,H',⟨Nat.le_refl _⟩,⟨by refine mR ?_;exact Kd.aK MT.1 (fun _ hk=>hk.2)⟩,⟨mK dx.1⟩,⟨(aI HB.1 ga.1)⟩⟩
 case round=>
  clear H'
  obtain⟨ah,fJ,cy,rfl,rfl,HA,aQ,fx,dx,HB⟩:=hrel;cases gk with
  |zero=>exact absurd HA.1 (by simp[dw.U])
  |succ k1=>
   have H:=HA.1;clear HA;simp only[dw.U]at H;by_cases c6:cy<(U.length:Int)
   ·rw[if_pos c6]at H;have eh:=decide_eq_true c6;clear c6;have ya:=J H;clear H;go_upto_region 6 with (fail)
    repeat (go_quiet (fail);go_upto_region 6 with (fail))
    go_cut [26] (fun v26 wc=>∃(kq:Nat) (LR:Bool),v26 = .bool LR∧Aside0 (dw.j1 kq U ah fJ cy LR bS cF=some r)∧Aside0 (kq≤k1)∧Aside0 (Kd.R an 89 wc w.heap.size (fun k_=>k_≠fH) u5 ah)∧Aside0 (wc.heap[fH]? = some (.cells #[.string bS,.int .i64 cF] 89 (0,0)))∧Aside0 (Below w.heap.size w wc))
    case first=>
     have H:=ya.1;clear ya;by_cases c8:fJ=true
     ·subst c8;have H1:=H;rw[if_pos rfl]at H1;clear H;have H:=H1;clear H1;have H':=J H;clear H;go_wp2
      repeat (go_quiet (fail);try go_wp2)
      go_meet
      case rel=>exact⟨_,(false),mE,H',⟨by have:=aQ.1;first|omega|exact Nat.le_refl _⟩,⟨mR fx.1⟩,⟨mK dx.1⟩,⟨(aI HB.1 ga.1)⟩⟩
     ·replace c8:=Bool.eq_false_iff.mpr c8;subst c8;have H1:=H;rw[if_neg (show ¬(false=true) by decide)]at H1;clear H;have H:=H1;clear H1;by_cases c9:0≤cy
      ·rw[if_pos c9]at H;have ma:=decide_eq_true c9;clear c9
       (first|rw[ma]|(simp only[dJ,gx];rw[ma])|skip)
       have H':=J H;clear H;have Ry:0≤(cy:Int):=mD;have RX:cy<(U.length:Int):=mD;obtain⟨apw,af6,Yn,Yo⟩:=gi bB.1 cy Ry RX;cases af6
       replace Yn:=mX HB.1 Yn;replace Yo:=mX HB.1 Yo;replace Ry:=eq_true Ry;replace RX:=eq_true RX;obtain⟨se,sf,sh,si⟩:=jX dx.1;go_wp2
       repeat (go_quiet (fail);try go_wp2)
       go_meet
       case rel=>exact⟨_,(!(Op.bytesLess (((aG U cy).f0).toList) bS.toList)),mE,H',⟨by have:=aQ.1;first|omega|exact Nat.le_refl _⟩,⟨mR fx.1⟩,⟨mK dx.1⟩,⟨(aI HB.1 ga.1)⟩⟩
      ·rw[if_neg c9]at H;exact absurd H (by simp)
    case rest=>
     clear ya
     try clear c6
     try clear eh
     obtain⟨kq,LR,rfl,HA,tV,fx,dx,HB⟩:=hcut;cases kq with
     |zero=>exact absurd HA.1 (by simp[dw.j1])
     |succ KO=>
      have H:=HA.1;clear HA;simp only[dw.j1]at H;have xV:=J H;clear H;go_upto_if 26 with (fail)
      repeat (go_quiet (fail);go_upto_if 26 with (fail))
      go_cut [5,6] (fun v5 v6 wc=>∃(kq:Nat) (vq:List (aa)) (C9:Bool),v6 = .bool C9∧Aside0 (dw.j2 kq U vq C9 cy bS cF=some r)∧Aside0 (kq≤KO)∧Aside0 (Kd.R an 89 wc w.heap.size (fun k_=>k_≠fH) v5 vq)∧Aside0 (wc.heap[fH]? = some (.cells #[.string bS,.int .i64 cF] 89 (0,0)))∧Aside0 (Below w.heap.size w wc))
      case first=>
       have H:=xV.1;clear xV;by_cases dI:LR=true
       ·subst dI;have H1:=H;rw[if_pos rfl]at H1;clear H;have H:=H1;clear H1;by_cases cY:ah.length<5864062014805
        ·rw[if_pos cY]at H;have Nb:=J cY;clear cY;obtain⟨aaX,G6⟩:∃y_:List (aa),y_=(ah++[(⟨bS,cF⟩:aa)]):=⟨_,rfl⟩;replace H:(dw.j2 KO U aaX true cy bS cF)=some r:=by first|(rw[G6];with_reducible exact H)|(have aM:=(Option.bind_some _ _).symm.trans H;rw[G6];with_reducible exact aM)|(have aM:=(Option.bind_some _ _).symm.trans H;with_reducible exact aM)|with_reducible exact H|(rw[G6];exact H)|exact H
         have NC:=J G6;clear G6;have H':=J H;clear H;obtain⟨yV,yW,zb,zc⟩:=jX dx.1;go_wp2_with (first|((with_reducible refine kv (b:=.append) (xs:=#[.tmp 27,.tmp 29]) rfl ?_);at_builtin;refine Kd.oW an (w0:=w) w.heap.size rfl (.tmp 27) (.tmp 29) 25 89 (.agg #[(.string ⟨#[]⟩),(.int .i64 0)]) 24 rfl Tryz.underlying25 iV rfl (by decide) (by omega) u5 ah (⟨bS,cF⟩:aa) [.string bS,.int .i64 cF] (fun k_=>k_≠fH) (fun _=>False) rfl rfl ?aP (fun _ hk=>hk.elim) ?aF ?aO ?aB ?aS ?aL ?_;(case aP=>exact nn _ _ _ (⟨bS,cF⟩:aa));(case aB=>exact(aI HB.1 ga.1));(case aF=>exact(fun k_ hk=>Kd.gD (g:=fH) (o:=.cells #[.string bS,.int .i64 cF] 89 (0,0)) (mK dx.1) k_ hk));(case aO=>exact(mR fx.1));(case aS=>exact(bl (aI HB.1 ga.1)));(case aL=>have:=Nb.1;omega);intro aaw lh ho hb hg hat;rw[←NC.1]at ho;replace dx:=J (cM (g:=fH) (o:=.cells #[.string bS,.int .i64 cF] 89 (0,0)) (mK dx.1) hg (Kd.qB fx.1 (fun _ hk=>hk)));replace HB:=J (hb);have MU:=J (ho);clear fx;clear ho hb hg hat))
         repeat (go_quiet (first|((with_reducible refine kv (b:=.append) (xs:=#[.tmp 27,.tmp 29]) rfl ?_);at_builtin;refine Kd.oW an (w0:=w) w.heap.size rfl (.tmp 27) (.tmp 29) 25 89 (.agg #[(.string ⟨#[]⟩),(.int .i64 0)]) 24 rfl Tryz.underlying25 iV rfl (by decide) (by omega) u5 ah (⟨bS,cF⟩:aa) [.string bS,.int .i64 cF] (fun k_=>k_≠fH) (fun _=>False) rfl rfl ?aP (fun _ hk=>hk.elim) ?aF ?aO ?aB ?aS ?aL ?_;(case aP=>exact nn _ _ _ (⟨bS,cF⟩:aa));(case aB=>exact(aI HB.1 ga.1));(case aF=>exact(fun k_ hk=>Kd.gD (g:=fH) (o:=.cells #[.string bS,.int .i64 cF] 89 (0,0)) (mK dx.1) k_ hk));(case aO=>exact(mR fx.1));(case aS=>exact(bl (aI HB.1 ga.1)));(case aL=>have:=Nb.1;omega);intro aaw lh ho hb hg hat;rw[←NC.1]at ho;replace dx:=J (cM (g:=fH) (o:=.cells #[.string bS,.int .i64 cF] 89 (0,0)) (mK dx.1) hg (Kd.qB fx.1 (fun _ hk=>hk)));replace HB:=J (hb);have MU:=J (ho);clear fx;clear ho hb hg hat));try go_wp2_with (first|((with_reducible refine kv (b:=.append) (xs:=#[.tmp 27,.tmp 29]) rfl ?_);at_builtin;refine Kd.oW an (w0:=w) w.heap.size rfl (.tmp 27) (.tmp 29) 25 89 (.agg #[(.string ⟨#[]⟩),(.int .i64 0)]) 24 rfl Tryz.underlying25 iV rfl (by decide) (by omega) u5 ah (⟨bS,cF⟩:aa) [.string bS,.int .i64 cF] (fun k_=>k_≠fH) (fun _=>False) rfl rfl ?aP (fun _ hk=>hk.elim) ?aF ?aO ?aB ?aS ?aL ?_;(case aP=>exact nn _ _ _ (⟨bS,cF⟩:aa));(case aB=>exact(aI HB.1 ga.1));(case aF=>exact(fun k_ hk=>Kd.gD (g:=fH) (o:=.cells #[.string bS,.int .i64 cF] 89 (0,0)) (mK dx.1) k_ hk));(case aO=>exact(mR fx.1));(case aS=>exact(bl (aI HB.1 ga.1)));(case aL=>have:=Nb.1;omega);intro aaw lh ho hb hg hat;rw[←NC.1]at ho;replace dx:=J (cM (g:=fH) (o:=.cells #[.string bS,.int .i64 cF] 89 (0,0)) (mK dx.1) hg (Kd.qB fx.1 (fun _ hk=>hk)));replace HB:=J (hb);have MU:=J (ho);clear fx;clear ho hb hg hat)))
         go_meet
         case rel=>exact⟨_,(aaX),(true),mE,H',⟨by have:=aQ.1;have:=tV.1;first|omega|exact Nat.le_refl _⟩,⟨mR MU.1⟩,⟨mK dx.1⟩,⟨(aI HB.1 ga.1)⟩⟩
        ·rw[if_neg cY]at H;exact absurd H (by simp)
       ·replace dI:=Bool.eq_false_iff.mpr dI;subst dI;have H1:=H;rw[if_neg (show ¬(false=true) by decide)]at H1;clear H;have H:=H1;clear H1;have H':=J H;clear H;go_wp2
        repeat (go_quiet (fail);try go_wp2)
        go_meet
        case rel=>exact⟨_,(ah),(fJ),mE,H',⟨by have:=aQ.1;have:=tV.1;first|omega|exact Nat.le_refl _⟩,⟨mR fx.1⟩,⟨mK dx.1⟩,⟨(aI HB.1 ga.1)⟩⟩
      case rest=>
       clear xV
       try clear c6
       try clear eh
       obtain⟨kq,vq,C9,rfl,HA,yb,fx,dx,HB⟩:=hcut;cases kq with
       |zero=>exact absurd HA.1 (by simp[dw.j2])
       |succ Hw=>
        have H:=HA.1;clear HA;simp only[dw.j2]at H;by_cases gY:0≤cy
        ·rw[if_pos gY]at H;have El:=decide_eq_true gY;clear gY;by_cases Jc:cy<(U.length:Int)
         ·rw[if_pos Jc]at H;have apD:=decide_eq_true Jc;clear Jc;by_cases yG:((aG U cy).f0).toList=bS.toList
          ·rw[if_pos yG]at H;have ae8:(((aG U cy).f0).toList == bS.toList)=true:=beq_iff_eq.mpr yG;have ae9:(((aG U cy).f0).toList != bS.toList)=false:=bne_eq_false_iff_eq.mpr yG;clear yG;have H':=J H;clear H;have zP:0≤(cy:Int):=mD;have Ap:cy<(U.length:Int):=mD;obtain⟨Vb,OP,Gp,Gq⟩:=gi bB.1 cy zP Ap;cases OP
           replace Gp:=mX HB.1 Gp;replace Gq:=mX HB.1 Gq;replace zP:=eq_true zP;replace Ap:=eq_true Ap;obtain⟨wm,wo,wF,wG⟩:=jX dx.1;go_wp2
           repeat (go_quiet (fail);try go_wp2)
           go_roundg Hw
           case measure=>have:=aQ.1;have:=tV.1;have:=yb.1;omega
           case rel=>exact⟨(vq),(C9),(wrap64 (cy+1)),mE,mE,H',⟨by have:=aQ.1;have:=tV.1;have:=yb.1;omega⟩,⟨mR fx.1⟩,⟨mK dx.1⟩,⟨(aI HB.1 ga.1)⟩⟩
          ·rw[if_neg yG]at H;have ae8:(((aG U cy).f0).toList == bS.toList)=false:=beq_eq_false_iff_ne.mpr yG;have ae9:(((aG U cy).f0).toList != bS.toList)=true:=bne_iff_ne.mpr yG;by_cases Je:vq.length<5864062014805
           ·rw[if_pos Je]at H;have Nc:=J Je;clear Je;obtain⟨aaZ,G8⟩:∃y_:List (aa),y_=(vq++[(⟨(aG U cy).f0,(aG U cy).f1⟩:aa)]):=⟨_,rfl⟩;replace H:(dw.U Hw U aaZ C9 (wrap64 (cy+1)) bS cF)=some r:=by first|(rw[G8];with_reducible exact H)|(have aM:=(Option.bind_some _ _).symm.trans H;rw[G8];with_reducible exact aM)|(have aM:=(Option.bind_some _ _).symm.trans H;with_reducible exact aM)|with_reducible exact H|(rw[G8];exact H)|exact H
            have ND:=J G8;clear G8;have H':=J H;clear H;have zP:0≤(cy:Int):=mD;have Ap:cy<(U.length:Int):=mD;obtain⟨Vb,OP,Gp,Gq⟩:=gi bB.1 cy zP Ap;cases OP
            replace Gp:=mX HB.1 Gp;replace Gq:=mX HB.1 Gq;replace zP:=eq_true zP;replace Ap:=eq_true Ap;obtain⟨J4,J5,Km,Kn⟩:=jX dx.1;have RA:0≤(cy:Int):=mD;have RY:cy<(U.length:Int):=mD;obtain⟨aeC,af7,Yp,Yq⟩:=gi bB.1 cy RA RY;obtain rfl:Vb=aeC:=(by injection af7);replace Yp:=mX HB.1 Yp;replace Yq:=mX HB.1 Yq;replace RA:=eq_true RA;replace RY:=eq_true RY;go_wp2_with (first|((with_reducible refine kv (b:=.append) (xs:=#[.tmp 39,.tmp 44]) rfl ?_);at_builtin;refine Kd.oW an (w0:=w) w.heap.size rfl (.tmp 39) (.tmp 44) 25 89 (.agg #[(.string ⟨#[]⟩),(.int .i64 0)]) 24 rfl Tryz.underlying25 iV rfl (by decide) (by omega) u5 vq (⟨(aG U cy).f0,(aG U cy).f1⟩:aa) [.string ((aG U cy).f0),.int .i64 ((aG U cy).f1)] (fun k_=>k_≠fH) (fun _=>False) rfl rfl ?aP (fun _ hk=>hk.elim) ?aF ?aO ?aB ?aS ?aL ?_;(case aP=>exact nn _ _ _ (⟨(aG U cy).f0,(aG U cy).f1⟩:aa));(case aB=>exact(aI HB.1 ga.1));(case aF=>exact(fun k_ hk=>Kd.gD (g:=fH) (o:=.cells #[.string bS,.int .i64 cF] 89 (0,0)) (mK dx.1) k_ hk));(case aO=>exact(mR fx.1));(case aS=>exact(bl (aI HB.1 ga.1)));(case aL=>have:=Nc.1;omega);intro aax LG ho hb hg hat;rw[←ND.1]at ho;replace dx:=J (cM (g:=fH) (o:=.cells #[.string bS,.int .i64 cF] 89 (0,0)) (mK dx.1) hg (Kd.qB fx.1 (fun _ hk=>hk)));replace HB:=J (hb);have MV:=J (ho);clear fx;clear ho hb hg hat))
            repeat (go_quiet (first|((with_reducible refine kv (b:=.append) (xs:=#[.tmp 39,.tmp 44]) rfl ?_);at_builtin;refine Kd.oW an (w0:=w) w.heap.size rfl (.tmp 39) (.tmp 44) 25 89 (.agg #[(.string ⟨#[]⟩),(.int .i64 0)]) 24 rfl Tryz.underlying25 iV rfl (by decide) (by omega) u5 vq (⟨(aG U cy).f0,(aG U cy).f1⟩:aa) [.string ((aG U cy).f0),.int .i64 ((aG U cy).f1)] (fun k_=>k_≠fH) (fun _=>False) rfl rfl ?aP (fun _ hk=>hk.elim) ?aF ?aO ?aB ?aS ?aL ?_;(case aP=>exact nn _ _ _ (⟨(aG U cy).f0,(aG U cy).f1⟩:aa));(case aB=>exact(aI HB.1 ga.1));(case aF=>exact(fun k_ hk=>Kd.gD (g:=fH) (o:=.cells #[.string bS,.int .i64 cF] 89 (0,0)) (mK dx.1) k_ hk));(case aO=>exact(mR fx.1));(case aS=>exact(bl (aI HB.1 ga.1)));(case aL=>have:=Nc.1;omega);intro aax LG ho hb hg hat;rw[←ND.1]at ho;replace dx:=J (cM (g:=fH) (o:=.cells #[.string bS,.int .i64 cF] 89 (0,0)) (mK dx.1) hg (Kd.qB fx.1 (fun _ hk=>hk)));replace HB:=J (hb);have MV:=J (ho);clear fx;clear ho hb hg hat));try go_wp2_with (first|((with_reducible refine kv (b:=.append) (xs:=#[.tmp 39,.tmp 44]) rfl ?_);at_builtin;refine Kd.oW an (w0:=w) w.heap.size rfl (.tmp 39) (.tmp 44) 25 89 (.agg #[(.string ⟨#[]⟩),(.int .i64 0)]) 24 rfl Tryz.underlying25 iV rfl (by decide) (by omega) u5 vq (⟨(aG U cy).f0,(aG U cy).f1⟩:aa) [.string ((aG U cy).f0),.int .i64 ((aG U cy).f1)] (fun k_=>k_≠fH) (fun _=>False) rfl rfl ?aP (fun _ hk=>hk.elim) ?aF ?aO ?aB ?aS ?aL ?_;(case aP=>exact nn _ _ _ (⟨(aG U cy).f0,(aG U cy).f1⟩:aa));(case aB=>exact(aI HB.1 ga.1));(case aF=>exact(fun k_ hk=>Kd.gD (g:=fH) (o:=.cells #[.string bS,.int .i64 cF] 89 (0,0)) (mK dx.1) k_ hk));(case aO=>exact(mR fx.1));(case aS=>exact(bl (aI HB.1 ga.1)));(case aL=>have:=Nc.1;omega);intro aax LG ho hb hg hat;rw[←ND.1]at ho;replace dx:=J (cM (g:=fH) (o:=.cells #[.string bS,.int .i64 cF] 89 (0,0)) (mK dx.1) hg (Kd.qB fx.1 (fun _ hk=>hk)));replace HB:=J (hb);have MV:=J (ho);clear fx;clear ho hb hg hat)))
            go_roundg Hw
            case measure=>have:=aQ.1;have:=tV.1;have:=yb.1;omega
            case rel=>exact⟨(aaZ),(C9),(wrap64 (cy+1)),mE,mE,H',⟨by have:=aQ.1;have:=tV.1;have:=yb.1;omega⟩,⟨mR MV.1⟩,⟨mK dx.1⟩,⟨(aI HB.1 ga.1)⟩⟩
           ·rw[if_neg Je]at H;exact absurd H (by simp)
         ·rw[if_neg Jc]at H;exact absurd H (by simp)
        ·rw[if_neg gY]at H;exact absurd H (by simp)
   ·rw[if_neg c6]at H;have eh:=decide_eq_false c6;clear c6;by_cases kt:fJ=true
    ·subst kt;have H1:=H;rw[if_pos rfl]at H1;clear H;have H:=H1;clear H1;obtain rfl:=Option.some.inj H;go_wp2
     repeat (go_quiet (fail);try go_wp2)
     go_ret;exact⟨_,bN,by refine mR ?_;exact Kd.aK fx.1 (fun _ hk=>trivial),(aI HB.1 ga.1)⟩
    ·replace kt:=Bool.eq_false_iff.mpr kt;subst kt;have H1:=H;rw[if_neg (show ¬(false=true) by decide)]at H1;clear H;have H:=H1;clear H1;by_cases lE:ah.length<5864062014805
     ·rw[if_pos lE]at H;have Nd:=J lE;clear lE;obtain⟨aoH,G9⟩:∃y_:List (aa),y_=(ah++[(⟨bS,cF⟩:aa)]):=⟨_,rfl⟩;replace H:(some aoH)=some r:=by first|(rw[G9];with_reducible exact H)|(have aM:=(Option.bind_some _ _).symm.trans H;rw[G9];with_reducible exact aM)|(have aM:=(Option.bind_some _ _).symm.trans H;with_reducible exact aM)|with_reducible exact H|(rw[G9];exact H)|exact H
      have NF:=J G9;clear G9;obtain rfl:=Option.some.inj H;obtain⟨PU,PV,Ql,Qm⟩:=jX dx.1;go_wp2_with (first|((with_reducible refine kv (b:=.append) (xs:=#[.tmp 48,.tmp 50]) rfl ?_);at_builtin;refine Kd.oW an (w0:=w) w.heap.size rfl (.tmp 48) (.tmp 50) 25 89 (.agg #[(.string ⟨#[]⟩),(.int .i64 0)]) 24 rfl Tryz.underlying25 iV rfl (by decide) (by omega) u5 ah (⟨bS,cF⟩:aa) [.string bS,.int .i64 cF] (fun k_=>k_≠fH) (fun _=>False) rfl rfl ?aP (fun _ hk=>hk.elim) ?aF ?aO ?aB ?aS ?aL ?_;(case aP=>exact nn _ _ _ (⟨bS,cF⟩:aa));(case aB=>exact(aI HB.1 ga.1));(case aF=>exact(fun k_ hk=>Kd.gD (g:=fH) (o:=.cells #[.string bS,.int .i64 cF] 89 (0,0)) (mK dx.1) k_ hk));(case aO=>exact(mR fx.1));(case aS=>exact(bl (aI HB.1 ga.1)));(case aL=>have:=Nd.1;omega);intro aay C3 ho hb hg hat;rw[←NF.1]at ho;replace dx:=J (cM (g:=fH) (o:=.cells #[.string bS,.int .i64 cF] 89 (0,0)) (mK dx.1) hg (Kd.qB fx.1 (fun _ hk=>hk)));replace HB:=J (hb);have MW:=J (ho);clear fx;clear ho hb hg hat))
      repeat (go_quiet (first|((with_reducible refine kv (b:=.append) (xs:=#[.tmp 48,.tmp 50]) rfl ?_);at_builtin;refine Kd.oW an (w0:=w) w.heap.size rfl (.tmp 48) (.tmp 50) 25 89 (.agg #[(.string ⟨#[]⟩),(.int .i64 0)]) 24 rfl Tryz.underlying25 iV rfl (by decide) (by omega) u5 ah (⟨bS,cF⟩:aa) [.string bS,.int .i64 cF] (fun k_=>k_≠fH) (fun _=>False) rfl rfl ?aP (fun _ hk=>hk.elim) ?aF ?aO ?aB ?aS ?aL ?_;(case aP=>exact nn _ _ _ (⟨bS,cF⟩:aa));(case aB=>exact(aI HB.1 ga.1));(case aF=>exact(fun k_ hk=>Kd.gD (g:=fH) (o:=.cells #[.string bS,.int .i64 cF] 89 (0,0)) (mK dx.1) k_ hk));(case aO=>exact(mR fx.1));(case aS=>exact(bl (aI HB.1 ga.1)));(case aL=>have:=Nd.1;omega);intro aay C3 ho hb hg hat;rw[←NF.1]at ho;replace dx:=J (cM (g:=fH) (o:=.cells #[.string bS,.int .i64 cF] 89 (0,0)) (mK dx.1) hg (Kd.qB fx.1 (fun _ hk=>hk)));replace HB:=J (hb);have MW:=J (ho);clear fx;clear ho hb hg hat));try go_wp2_with (first|((with_reducible refine kv (b:=.append) (xs:=#[.tmp 48,.tmp 50]) rfl ?_);at_builtin;refine Kd.oW an (w0:=w) w.heap.size rfl (.tmp 48) (.tmp 50) 25 89 (.agg #[(.string ⟨#[]⟩),(.int .i64 0)]) 24 rfl Tryz.underlying25 iV rfl (by decide) (by omega) u5 ah (⟨bS,cF⟩:aa) [.string bS,.int .i64 cF] (fun k_=>k_≠fH) (fun _=>False) rfl rfl ?aP (fun _ hk=>hk.elim) ?aF ?aO ?aB ?aS ?aL ?_;(case aP=>exact nn _ _ _ (⟨bS,cF⟩:aa));(case aB=>exact(aI HB.1 ga.1));(case aF=>exact(fun k_ hk=>Kd.gD (g:=fH) (o:=.cells #[.string bS,.int .i64 cF] 89 (0,0)) (mK dx.1) k_ hk));(case aO=>exact(mR fx.1));(case aS=>exact(bl (aI HB.1 ga.1)));(case aL=>have:=Nd.1;omega);intro aay C3 ho hb hg hat;rw[←NF.1]at ho;replace dx:=J (cM (g:=fH) (o:=.cells #[.string bS,.int .i64 cF] 89 (0,0)) (mK dx.1) hg (Kd.qB fx.1 (fun _ hk=>hk)));replace HB:=J (hb);have MW:=J (ho);clear fx;clear ho hb hg hat)))
      go_ret;exact⟨_,bN,by refine mR ?_;exact Kd.aK MW.1 (fun _ hk=>trivial),(aI HB.1 ga.1)⟩
     ·rw[if_neg lE]at H;exact absurd H (by simp)
end Go.Proofs.YtingkpnoiekliaaGreat.MZ
end
section
namespace Go.Proofs.YtingkpnoiekliaaGreat.MZ
open Go.RowKit Go.Proofs.YtingkpnoiekliaaGreatW.PrintWords Go.Proofs.YtingkpnoiekliaaGreatW.PrintLast Go.Proofs.YtingkpnoiekliaaGreatW.PrintMore Go.Proofs.YtingkpnoiekliaaGreat.MWords
attribute [local go_sem] max2_int min2_int max_two min_two max_three min_three max_four min_four
set_option linter.unusedVariables false
set_option linter.unusedSimpArgs false
def lI.U:Nat→List (aa)→ByteArray→List (aa)→Int→Option ((List (aa)))
 |0,_,_,_,_=>none
 |k+1,x0,x1,x5,x6=>if x6<(x0.length:Int) then (if 0≤x6 then (if ((aG x0 x6).f0).toList=x1.toList then (lI.U k x0 x1 x5 (wrap64 (x6+1))) else (if x5.length<5864062014805 then (lI.U k x0 x1 (x5++[(⟨(aG x0 x6).f0,(aG x0 x6).f1⟩:aa)]) (wrap64 (x6+1))) else (none))) else (none)) else (some x5)
def lI.f (k:Nat) (U:List (aa)) (a1:ByteArray):Option ((List (aa))):=lI.U k U a1 (([]:List (aa))) 0
set_option maxHeartbeats 8000000 in
set_option maxRecDepth 100000 in
theorem lI.calls (k:Nat) (A0:Option Addr) (c0:Nat) (U:List (aa)) (a1:ByteArray) (r:List (aa)) (w:World) (bJ:Kd.C an w A0 U.length U) (bz:U.length≤c0) (h:lI.f k U a1=some r) :
 Calls Tryz.prog 113 #[.slice A0 U.length c0,.string a1] w fun e w'=>∃cf:Value,e = .returned (cf)∧Kd.R an 89 w' w.heap.size (fun _=>True) cf r∧Below w.heap.size w w':=by
 have zl:=Tryz.underlying89;have bB:=J bJ;have eb:=J bz;clear bJ bz;have HB:=J (Below.refl w.heap.size w);have H:(lI.U k U a1 (([]:List (aa))) 0)=some r:=h;clear h;obtain⟨aa1,Hb⟩:∃y_:List (aa),y_=(([]:List (aa))):=⟨_,rfl⟩;replace H:(lI.U k U a1 aa1 0)=some r:=by first|(rw[Hb];with_reducible exact H)|(have aM:=(Option.bind_some _ _).symm.trans H;rw[Hb];with_reducible exact aM)|(have aM:=(Option.bind_some _ _).symm.trans H;with_reducible exact aM)|with_reducible exact H|(rw[Hb];exact H)|exact H
 have UK:=J Hb;clear Hb;have H':=J H;clear H;go_enter Tryz.func113,Tryz.ntmps113;go_wp2_with (first|((with_reducible refine aH (N:=7) rfl ?_);refine Kd.kR an _ 89 ?hg (N:=7) ?hd (xs:=([]:List (aa))) (inner:=[]) (ok:=fun _=>True) (okp:=fun _=>True) ?hr ?hp (fun _ hk=>hk) trivial (Below.refl _ _) (Nat.le_refl _) (by simp) ?_;(case hd=>rfl);(case hg=>rfl);(case hr=>first|(go_simp;done)|(go_simp;rfl));(case hp=>exact(bw.none _ _));intro ayK w3 FQ hb hg_ hnew_;clear hg_ hnew_;(first|rw[←UK.1]at FQ|(simp only[Int.reduceToNat]at FQ;rw[←UK.1]at FQ));have ab6:=J (Kd.cg FQ (bl (mH HB.1)));replace HB:=J (ar (mH HB.1) hb);clear hb FQ));go_loopg [5,6] k (fun kq v5 v6 w'=>∃(ah:List (aa)) (fJ:Int),v6 = .int .i64 fJ∧Aside0 (lI.U kq U a1 ah fJ=some r)∧Aside0 (kq≤k)∧Aside0 (Kd.R an 89 w' w.heap.size (fun _=>True) v5 ah)∧Aside0 (Below w.heap.size w w'))
 case atStart=>exact⟨(aa1),(0),mE,H',⟨Nat.le_refl _⟩,⟨mR ab6.1⟩,⟨(mH HB.1)⟩⟩
 case round=>
  clear H'
  obtain⟨ah,fJ,rfl,HA,aQ,fx,HB⟩:=hrel;cases gk with
  |zero=>exact absurd HA.1 (by simp[lI.U])
  |succ k1=>
   have H:=HA.1;clear HA;simp only[lI.U]at H;by_cases c5:fJ<(U.length:Int)
   ·rw[if_pos c5]at H;have eS:=decide_eq_true c5;clear c5;by_cases c6:0≤fJ
    ·rw[if_pos c6]at H;have eh:=decide_eq_true c6;clear c6;by_cases c7:((aG U fJ).f0).toList=a1.toList
     ·rw[if_pos c7]at H;have jN:(((aG U fJ).f0).toList == a1.toList)=true:=beq_iff_eq.mpr c7;have BL:(((aG U fJ).f0).toList != a1.toList)=false:=bne_eq_false_iff_eq.mpr c7;clear c7;have H':=J H;clear H;have zQ:0≤(fJ:Int):=mD;have Aq:fJ<(U.length:Int):=mD;obtain⟨Vc,OQ,Gr,Gs⟩:=gi bB.1 fJ zQ Aq;cases OQ
      replace Gr:=mX HB.1 Gr;replace Gs:=mX HB.1 Gs;replace zQ:=eq_true zQ;replace Aq:=eq_true Aq;go_wp2;go_roundg k1
      case measure=>have:=aQ.1;omega
      case rel=>exact⟨(ah),(wrap64 (fJ+1)),mE,H',⟨by have:=aQ.1;omega⟩,⟨mR fx.1⟩,⟨(mH HB.1)⟩⟩
     ·rw[if_neg c7]at H;have jN:(((aG U fJ).f0).toList == a1.toList)=false:=beq_eq_false_iff_ne.mpr c7;have BL:(((aG U fJ).f0).toList != a1.toList)=true:=bne_iff_ne.mpr c7;by_cases c8:ah.length<5864062014805
      ·rw[if_pos c8]at H;have acz:=J c8;clear c8;obtain⟨aa2,Hc⟩:∃y_:List (aa),y_=(ah++[(⟨(aG U fJ).f0,(aG U fJ).f1⟩:aa)]):=⟨_,rfl⟩;replace H:(lI.U k1 U a1 aa2 (wrap64 (fJ+1)))=some r:=by first|(rw[Hc];with_reducible exact H)|(have aM:=(Option.bind_some _ _).symm.trans H;rw[Hc];with_reducible exact aM)|(have aM:=(Option.bind_some _ _).symm.trans H;with_reducible exact aM)|with_reducible exact H|(rw[Hc];exact H)|exact H
       have adS:=J Hc;clear Hc;have H':=J H;clear H;have zQ:0≤(fJ:Int):=mD;have Aq:fJ<(U.length:Int):=mD;obtain⟨Vc,OQ,Gr,Gs⟩:=gi bB.1 fJ zQ Aq;cases OQ
       replace Gr:=mX HB.1 Gr;replace Gs:=mX HB.1 Gs;replace zQ:=eq_true zQ;replace Aq:=eq_true Aq;have RC:0≤(fJ:Int):=mD;have R0:fJ<(U.length:Int):=mD;obtain⟨aeD,aga,Yu,Yv⟩:=gi bB.1 fJ RC R0;obtain rfl:Vc=aeD:=(by injection aga);replace Yu:=mX HB.1 Yu;replace Yv:=mX HB.1 Yv;replace RC:=eq_true RC;replace R0:=eq_true R0;go_wp2_with (first|((with_reducible refine kv (b:=.append) (xs:=#[.tmp 21,.tmp 26]) rfl ?_);at_builtin;refine Kd.oW an (w0:=w) w.heap.size rfl (.tmp 21) (.tmp 26) 25 89 (.agg #[(.string ⟨#[]⟩),(.int .i64 0)]) 24 rfl Tryz.underlying25 iV rfl (by decide) (by omega) u5 ah (⟨(aG U fJ).f0,(aG U fJ).f1⟩:aa) [.string ((aG U fJ).f0),.int .i64 ((aG U fJ).f1)] (fun _=>True) (fun _=>False) rfl rfl ?aP (fun _ hk=>hk.elim) ?aF ?aO ?aB ?aS ?aL ?_;(case aP=>exact nn _ _ _ (⟨(aG U fJ).f0,(aG U fJ).f1⟩:aa));(case aB=>exact(mH HB.1));(case aF=>exact(fun _ _=>trivial));(case aO=>exact(mR fx.1));(case aS=>exact(bl (mH HB.1)));(case aL=>have:=acz.1;omega);intro ayL w9 ho hb hg hat;rw[←adS.1]at ho;replace HB:=J (hb);have ab7:=J (ho);clear fx;clear ho hb hg hat));go_roundg k1
       case measure=>have:=aQ.1;omega
       case rel=>exact⟨(aa2),(wrap64 (fJ+1)),mE,H',⟨by have:=aQ.1;omega⟩,⟨mR ab7.1⟩,⟨(mH HB.1)⟩⟩
      ·rw[if_neg c8]at H;exact absurd H (by simp)
    ·rw[if_neg c6]at H;exact absurd H (by simp)
   ·rw[if_neg c5]at H;have eS:=decide_eq_false c5;clear c5;obtain rfl:=Option.some.inj H;go_wp2;go_ret;exact⟨_,bN,mR fx.1,(mH HB.1)⟩
end Go.Proofs.YtingkpnoiekliaaGreat.MZ
end
