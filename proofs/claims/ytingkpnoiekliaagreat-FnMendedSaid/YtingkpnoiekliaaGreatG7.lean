/- Walks and plain laws, put together: no condition of their own. -/
import Derived.Test.YtingkpnoiekliaaGreatG5
import Derived.Test.YtingkpnoiekliaaGreatG3
import Derived.Test.YtingkpnoiekliaaGreatMZx8
import Derived.Test.YtingkpnoiekliaaGreatVAll
import Derived.Test.YtingkpnoiekliaaGreatG1
import Derived.Test.YtingkpnoiekliaaGreatG2
section
namespace Go.Proofs.YtingkpnoiekliaaGreat.MZ
open Go.RowKit Go.Proofs.YtingkpnoiekliaaGreatW.PrintWords Go.Proofs.YtingkpnoiekliaaGreatW.PrintLast Go.Proofs.YtingkpnoiekliaaGreatW.PrintMore Go.Proofs.YtingkpnoiekliaaGreat.MWords
set_option linter.unusedVariables false
set_option linter.unusedSimpArgs false
theorem X1 (ds:List aj) (ns ss:List ab) (nx:Int) (h0:ds.length≤1048576) (hd:∀x ∈ ds,x.f1.length≤4194304) (h1:ns.length≤1048576) (h2:ss.length≤1048576) (z1:∀e ∈ ns,e.f0.size≤9223372036854775807) (z2:∀e ∈ ss,e.f0.size≤9223372036854775807):Ev (fun k=>kU.f k ds ns ss nx) (bO ds ns ss nx):=⟨0,fun k _=>if_pos (xi.2 ⟨h0,hd,h1,h2,z1,z2⟩)⟩
theorem P9 (ds:List aj) (ns ss:List ab) (nx:Int) (h0:ds.length≤1048576) (hd:∀x ∈ ds,x.f1.length≤4194304) (h1:ns.length≤1048576) (h2:ss.length≤1048576) (z1:∀e ∈ ns,e.f0.size≤9223372036854775807) (z2:∀e ∈ ss,e.f0.size≤9223372036854775807):Ev (fun k=>pO.f k ds ns ss nx) (bO ds ns ss nx):=⟨0,fun k _=>if_pos (xi.2 ⟨h0,hd,h1,h2,z1,z2⟩)⟩
theorem yD (p:Nat→Bool):∀(d i:Nat),(∃j,i≤j∧j<i+d∧p j=true∧∀ {ρ:Type} (stop:Nat→ρ) (e:ρ),fl p stop e i d=stop j)∨((∀j,i≤j→j<i+d→p j=false)∧∀ {ρ:Type} (stop:Nat→ρ) (e:ρ),fl p stop e i d=e)
 |0,i=>Or.inr ⟨fun j h1 h2=>by omega,fun _ _=>rfl⟩
 |d+1,i=>by
  by_cases hp:p i=true
  ·exact Or.inl ⟨i,by omega,by omega,hp,fun stop e=>by simp only[fl];rw[if_pos hp]⟩
  ·rcases yD p d (i+1) with ⟨j,h1,h2,h3,h4⟩|⟨h1,h2⟩
   ·exact Or.inl ⟨j,by omega,by omega,h3,fun stop e=>by simp only[fl];rw[if_neg hp];exact h4 stop e⟩
   ·refine Or.inr ⟨fun j a b=>?_,fun stop e=>by simp only[fl];rw[if_neg hp];exact h2 stop e⟩;by_cases hj:j=i
    ·subst hj;simpa using hp
    ·exact h1 j (by omega) (by omega)
theorem Qx {a b:ByteArray} (h:a.toList=b.toList):a=b:=by
 rw[ByteArray.toList_eq,ByteArray.toList_eq]at h;exact ByteArray.ext (Array.toList_inj.1 h)
theorem UA {ds:List aj} {l:List ab} (h:iB ds l=true) (i:Nat) (hi:i<l.length):fe (aK l (i:Int)).f0=true∧0≤fK ds (aK l (i:Int)).f1:=by
 unfold iB at h;rw[yC,Bool.and_eq_true]at h;have hb:=Dw _ _ (by simpa using h.1) i (by omega) (by omega);unfold nr at hb;rw[Bool.or_eq_false_iff,Bool.or_eq_false_iff,Bool.or_eq_false_iff]at hb;obtain⟨⟨⟨h1,h2⟩,_⟩,_⟩:=hb;refine⟨by simpa using h1,?_⟩;have:=of_decide_eq_false h2;omega
theorem FJ {ds:List aj} {id:Int} (h:0≤fK ds id):∃j,j<ds.length∧fK ds id=(j:Int)∧(ae ds (j:Int)).f0=id:=by
 unfold fK at h ⊢
 rcases yD (fun i=>decide ((ae ds (i:Int)).f0=id)) ds.length 0 with ⟨j,_,h2,h3,h4⟩|⟨_,h2⟩
 ·exact⟨j,by omega,h4 _ _,by simpa using h3⟩
 ·rw[h2]at h;omega
theorem Ju {ds:List aj} {ns ss:List ab} {nx:Int} {i:Nat} (h:jz ds ns ss nx i=false):1≤(ae ds (i:Int)).f0∧0≤(ae ds (i:Int)).f2∧(ae ds (i:Int)).f2≤((ae ds (i:Int)).f1.length:Int):=by
 unfold jz at h;rw[Bool.or_eq_false_iff,Bool.or_eq_false_iff,Bool.or_eq_false_iff]at h;obtain⟨⟨⟨h1,h2⟩,_⟩,_⟩:=h;have a:=of_decide_eq_true (by simpa using h1:decide (1≤(ae ds (i:Int)).f0∧(ae ds (i:Int)).f0≤wrap64 (nx-1))=true);have b:=of_decide_eq_true (by simpa using h2:decide (0≤(ae ds (i:Int)).f2∧(ae ds (i:Int)).f2≤((ae ds (i:Int)).f1.length:Int))=true);exact⟨a.1,b⟩
theorem tK {ds:List aj} {ns ss:List ab} {nx:Int} (h:bO ds ns ss nx=true):oS ds ns ss nx=true∧iB ds ns=true∧iB ds ss=true:=by
 unfold bO at h;simp only[Bool.and_eq_true]at h;exact⟨h.2.1,h.2.2.2.1,h.2.2.2.2⟩
theorem H3 {β γ:Type} (L:Nat→List β→Nat→Option γ) (n:Nat) (p:Nat→Bool) (h:Nat→β) (fin:List β→γ)
 (D7:∀(i:Nat) (out:List β) (r:γ),i<n→out.length≤i→p i=true→Ev (fun k=>L k (out++[h i]) (i+1)) r→Ev (fun k=>L k out i) r)
 (fp:∀(i:Nat) (out:List β) (r:γ),i<n→out.length≤i→p i=false→Ev (fun k=>L k out (i+1)) r→Ev (fun k=>L k out i) r)
 (he:∀out:List β,out.length≤n→Ev (fun k=>L k out n) (fin out)):Ev (fun k=>L k [] 0) (fin (((List.range n).filter p).map h)):=by
 have key:∀(d i:Nat),i+d=n→Ev (fun k=>L k (((List.range i).filter p).map h) i) (fin (((List.range n).filter p).map h)):=by
  intro d
  induction d with
  |zero=>
   intro i hi;have:i=n:=by omega
   subst this;exact he _ (by rw[List.length_map];exact Nat.le_trans (List.length_filter_le _ _) (by simp))
  |succ d ih=>
   intro i hi;have hl:(((List.range i).filter p).map h).length≤i:=by rw[List.length_map];exact Nat.le_trans (List.length_filter_le _ _) (by simp)
   have hn:=ih (i+1) (by omega);rw[List.range_succ,List.filter_append,List.map_append]at hn;cases hp:p i
   ·refine fp i _ _ (by omega) hl hp ?_;simpa[hp] using hn
   ·refine D7 i _ _ (by omega) hl hp ?_;simpa[hp] using hn
 exact key n 0 (by omega)
theorem PU (ds:List aj):(List.range ds.length).map (fun (i:Nat)=>ae ds (i:Int))=ds:=by
 have:=YM ds (fun x=>x) gV;rw[List.map_id']at this;exact this
theorem OI (ds:List aj) (ns ss:List ab) (nx:Int) (h0:ds.length≤1048576) (hd:∀x ∈ ds,x.f1.length≤4194304) (h1:ns.length≤1048576) (h2:ss.length≤1048576):Ev (fun k=>dY.f k ds ns ss nx) (ds,ns,ss,nx):=by
 have loop:=H3 (fun k out i=>dY.U k (i:Int) ds ns ss nx out ns ss nx) ds.length (fun _=>true) (fun (i:Nat)=>ae ds (i:Int)) (fun out=>(out,ns,ss,nx)) (fun i out r hi ho _ h=>?_) (fun i out r hi ho hp h=>by simp at hp) (fun out ho=>?_)
 ·rw[List.filter_eq_self.2 (fun _ _=>rfl),PU]at loop;refine Ev.congr (fun k=>?_) loop;simp only[dY.f,Option.bind_some,List.nil_append,List.length_nil];rw[if_pos (by omega),if_pos (by omega)];rfl
 ·have hm:=hd _ (qw hi);refine Ev.step (fun k=>?_) h;simp only[dY.U,Option.bind_some,List.nil_append,List.length_nil];rw[if_pos (by omega),if_pos (by omega),if_pos (by omega),if_pos (by omega),jQ (n:=ds.length) hi (by omega)]
 ·refine Ev.ends (fun k=>?_);simp only[dY.U];rw[if_neg (by omega)]
theorem afw (ds:List aj) (ns ss:List ab) (nx:Int) (h0:ds.length≤1048576) (hd:∀x ∈ ds,x.f1.length≤4194304) (h1:ns.length≤1048576) (h2:ss.length≤1048576):Ev (fun k=>fJ.f k ds ns ss nx) (ds,ns,ss,nx):=by
 have loop:=H3 (fun k out i=>fJ.U k ds (ds.length:Int) (i:Int) out ns ss nx) ds.length (fun _=>true) (fun (i:Nat)=>ae ds (i:Int)) (fun out=>(out,ns,ss,nx)) (fun i out r hi ho _ h=>?_) (fun i out r hi ho hp h=>by simp at hp) (fun out ho=>?_)
 ·rw[List.filter_eq_self.2 (fun _ _=>rfl),PU]at loop;refine Ev.congr (fun k=>?_) loop;simp only[fJ.f,List.nil_append,List.length_nil];rw[if_pos (by omega),if_pos (by omega)];rfl
 ·have hm:=hd _ (qw hi);refine Ev.step (fun k=>?_) h;simp only[fJ.U,wU.f,List.nil_append,List.length_nil];rw[if_pos (by omega),if_pos (by omega),if_pos (by omega),if_pos (by omega),Option.bind_some,if_pos (by omega),jQ (n:=ds.length) hi (by omega)]
 ·refine Ev.ends (fun k=>?_);simp only[fJ.U];rw[if_neg (by omega)]
def kept (ds:List aj) (ns ss:List ab):List aj:=((List.range ds.length).filter (fun (i:Nat)=>named ns (ae ds (i:Int)).f0 || named ss (ae ds (i:Int)).f0)).map (fun (i:Nat)=>ae ds (i:Int))
theorem alg (ds:List aj) (ns ss:List ab):(kept ds ns ss).length≤ds.length:=by
 unfold kept;rw[List.length_map];exact Nat.le_trans (List.length_filter_le _ _) (by simp)
theorem Yh {ds:List aj} {ns ss:List ab} {x:aj} (h:x ∈ kept ds ns ss):x ∈ ds:=by
 obtain⟨i,hi,rfl⟩:=List.mem_map.1 h;exact qw (by simpa using (List.mem_filter.1 hi).1)
abbrev dG:=List aj × List ab × List ab × Int × Int
def jl (d0:List aj) (n0 s0:List ab) (x0:Int) (ds:List aj) (ns ss:List ab) (nx:Int):dG:=
 if bO (kept ds ns ss) ns ss nx=true then (kept ds ns ss,ns,ss,nx,0) else (d0,n0,s0,x0,4)
theorem Small.kept {ds:List aj} {ns ss:List ab} (h:Small ds ns ss):Small (kept ds ns ss) ns ss:=⟨Nat.le_trans (alg ds ns ss) h.h0,fun x hx=>h.hd x (Yh hx),h.h1,h.h2,h.z1,h.z2⟩
theorem H5 {α:Type} {d:Kd α} {e:Nat} {w:World} {base:Nat} {ok:Nat→Prop} {v:Value} {xs:List α} (h:d.R e w base ok v xs):Foot (fun W=>d.R e W base ok v xs) w ok:=fun W hW=>Kd.nR h hW
theorem Dy {α:Type} {d:Kd α} {e:Nat} {w:World} {base:Nat} {ok:Nat→Prop} {v:Value} {xs:List α} (h:Kd.S d e w base ok v xs):Foot (fun W=>Kd.S d e W base ok v xs) w ok:=fun W hW=>Kd.CW h hW
def pf (b:Nat) (v0 v1 v2:Value) (d:Dk) (W:World):Prop:=Kd.S bf 63 W b (fun k=>b≤k) v0 d.f0∧Kd.R ak 89 W b (fun k=>b≤k∧some k≠v2.ownBlock) v1 d.f1∧Kd.R ak 89 W b (fun k=>b≤k∧some k≠v1.ownBlock) v2 d.f2
theorem P0 {w:World} {cs:Array Value} {d:Dk} (hd:cH cs d w) (hs:Small d.f0 d.f1 d.f2):Calls Tryz.prog 31 #[.agg cs] w (fun e w'=>∃v0 v1 v2,e = .returned (.agg #[v0,v1,v2,.int .i64 d.f3])∧Foot (pf w.heap.size v0 v1 v2 d) w' (fun k=>w.heap.size≤k)∧Below w.heap.size w w'):=by
 obtain⟨K,hk⟩:=OI d.f0 d.f1 d.f2 d.f3 hs.h0 hs.hd hs.h1 hs.h2;obtain⟨A0,c0,A1,c1,A2,c2,rfl,U,g0,l1,g1,l2,g2⟩:=hd.open;refine(dY.calls K _ _ _ _ _ _ _ _ _ _ _ _ _ _ w g0 U g1 l1 g2 l2 (hk K (Nat.le_refl _))).mono (fun e w' ⟨v0,v1,v2,he,h0,h1,h2,hb⟩=>⟨v0,v1,v2,he,fun W hW=>⟨?_,?_,?_⟩,hb⟩)
 ·exact Dy (Kd.eu (Kd.nU h0) (fun k hk=>hk.2.1)) W hW
 ·exact H5 (Kd.aw (Kd.jb h1) (fun k hk=>⟨hk.2.1,hk.1⟩)) W (fun k hk=>hW k hk.1)
 ·exact H5 (Kd.aw (Kd.jb h2) (fun k hk=>⟨hk.2.1,hk.1⟩)) W (fun k hk=>hW k hk.1)
theorem pf.lower {b b':Nat} {v0 v1 v2:Value} {d:Dk} {W:World} (h:pf b v0 v1 v2 d W) (hb:b'≤b):pf b' v0 v1 v2 d W:=
 ⟨Kd.nV (Kd.eu h.1 (fun k hk=>Nat.le_trans hb hk)) hb,Kd.bT (Kd.aw h.2.1 (fun k hk=>⟨Nat.le_trans hb hk.1,hk.2⟩)) hb,Kd.bT (Kd.aw h.2.2 (fun k hk=>⟨Nat.le_trans hb hk.1,hk.2⟩)) hb⟩
theorem pf.bM {b:Nat} {v0 v1 v2:Value} {d:Dk} {W:World} (h:pf b v0 v1 v2 d W):cH #[v0,v1,v2,.int .i64 d.f3] d W:=by
 obtain⟨A1,c1,rfl,l1,g1⟩:=Kd.lT h.2.1;obtain⟨A2,c2,rfl,l2,g2⟩:=Kd.lT h.2.2;obtain⟨A0,c0,rfl⟩:=Kd.kF h.1;have r:=Kd.kf h.1;exact tR W d r.2.1 r.2.2 l1 g1 l2 g2
set_option maxHeartbeats 8000000 in
set_option maxRecDepth 100000 in
theorem Y3 {w:World} {c0:Array Value} {d0 d1:Dk} {P:Nat→Prop} {A3 A4 A5:Option Addr} {c3 c4 c5:Nat} (h0:cH c0 d0 w) (hF:Kd.F bf w (fun k=>P k∧k<w.heap.size) A3 d1.f0.length d1.f0) (l3:d1.f0.length≤c3) (r4:Kd.C ak w A4 d1.f1.length d1.f1) (l4:d1.f1.length≤c4) (r5:Kd.C ak w A5 d1.f2.length d1.f2) (l5:d1.f2.length≤c5) (s0:Small d0.f0 d0.f1 d0.f2) (s1:Small d1.f0 d1.f1 d1.f2) :
 Calls Tryz.prog 95 #[.agg c0,.agg #[.slice A3 d1.f0.length c3,.slice A4 d1.f1.length c4,.slice A5 d1.f2.length c5,.int .i64 d1.f3]] w (fun e w'=>Below w.heap.size w w' ∧
  ((bO (kept d1.f0 d1.f1 d1.f2) d1.f1 d1.f2 d1.f3=true∧∃v,e = .returned (.tuple #[.agg #[v,.slice A4 d1.f1.length c4,.slice A5 d1.f2.length c5,.int .i64 d1.f3],.int .i64 0])∧Kd.N bf 63 w' w.heap.size (fun k=>(P k∧k<w.heap.size)∨w.heap.size≤k) v (kept d1.f0 d1.f1 d1.f2)) ∨
   (¬bO (kept d1.f0 d1.f1 d1.f2) d1.f1 d1.f2 d1.f3=true∧∃v0 v1 v2,e = .returned (.tuple #[.agg #[v0,v1,v2,.int .i64 d0.f3],.int .i64 4])∧pf w.heap.size v0 v1 v2 d0 w'))):=by
 have HS:=St.start w (fun _=>False);have h4:=h0.size;obtain⟨z,hk⟩:∃z,bO (kept d1.f0 d1.f1 d1.f2) d1.f1 d1.f2 d1.f3=z:=⟨_,rfl⟩;rw[hk];replace hk:=J hk;cases z
 all_goals
  go_enter Tryz.func95,Tryz.ntmps95;go_wp2_with (first|((with_reducible refine aM (N:=2) rfl ?_);refine bg 2 c0 27 ?_;intro bx2 hg w1 hx hb;have apT:=Nat.le_trans HS.be.size (Nat.le_of_eq hg.symm);replace HS:=HS.box hg hx hb h4;clear hb hx hg)|((with_reducible refine aM (N:=3) rfl ?_);refine bg 3 #[.slice A3 d1.f0.length c3,.slice A4 d1.f1.length c4,.slice A5 d1.f2.length c5,.int .i64 d1.f3] 27 ?_;intro bx3 hg w1 hx hb;have apU:=Nat.le_trans HS.be.size (Nat.le_of_eq hg.symm);replace HS:=HS.box hg hx hb rfl;clear hb hx hg)|((with_reducible refine aM (N:=4) rfl ?_);refine bg 4 #[.slice none 0 0,.slice none 0 0,.slice none 0 0,.int .i64 0] 27 ?_;intro ME hg w1 hx hb;have apV:=Nat.le_trans HS.be.size (Nat.le_of_eq hg.symm);replace HS:=HS.box hg hx hb rfl;clear hb hx hg)|(first|refine br 0 HS ?_|refine br 1 HS ?_|refine br 2 HS ?_)|((with_reducible refine aH (f:=99) rfl ?_);have m4:=fR (HS.bx _ (.head _)).2.2;have m3:=fR (HS.bx _ (.tail _ (.head _))).2.2;have m2:=fR (HS.bx _ (.tail _ (.tail _ (.head _)))).2.2;have hz:=HS.be.size;refine bz Tryz.func99 (Y6 (d:=d1) (Foot.step hF (fun k _ hk=>HS.be.block k hk)) l3 (Kd.az r4 HS.be) l4 (Kd.az r5 HS.be) l5 s1.h0 s1.h1 s1.h2) ?_;rintro e w1 ⟨v,rfl,hN,hb⟩;refine⟨_,rfl,?_⟩;obtain⟨A,c,rfl⟩:=Kd.oG hN;replace HS:=((HS.below hb).and (Q':=fun W=>Kd.N bf 63 W w.heap.size (fun k=>(P k∧k<w.heap.size)∨(w.heap.size≤k∧k≠bx2∧k≠bx3∧k≠ME)) (.slice A (kept d1.f0 d1.f1 d1.f2).length c) (kept d1.f0 d1.f1 d1.f2)) ((Nr (Kd.uB (Kd.dH hN (fun k hk=>hk.elim (fun h=>Or.inl h.1) (fun h=>Or.inr (by simp only at m2 m3 m4;omega)))) hz)).mono (fun k hk=>⟨fun h=>h,fun b hm e=>by simp only[List.mem_cons,List.not_mem_nil,or_false]at hm;rcases hk with hk|hk<;>rcases hm with rfl|rfl|rfl<;>simp only at e<;>omega⟩))).imp (fun _ h=>h.2);clear hN hb m2 m3 m4 hz)|((with_reducible refine aH (f:=71) rfl ?_);refine bz Tryz.func71 (P2 (d:=⟨kept d1.f0 d1.f1 d1.f2,d1.f1,d1.f2,d1.f3⟩) (tR _ ⟨kept d1.f0 d1.f1 d1.f2,d1.f1,d1.f2,d1.f3⟩ (Kd.iI HS.q).2.1 (Kd.iI HS.q).2.2 l4 (Kd.az r4 HS.be) l5 (Kd.az r5 HS.be)) s1.kept) ?_;rintro e w1 ⟨rfl,hb⟩;refine⟨_,rfl,?_⟩;replace HS:=HS.below hb;clear hb;rw[hk.1])|((with_reducible refine aH (f:=31) rfl ?_);refine bz Tryz.func31 (P0 (eh h0 HS.be) s0) ?_;rintro e w1 ⟨x0,x1,x2,rfl,hR,hb⟩;have hz:=HS.be.size;refine⟨_,rfl,?_⟩;replace HS:=(HS.call hb hR (fun _ _ h=>h)).imp (fun _ h=>h.2.lower hz);clear hR hb)|((with_reducible refine dM rfl ?_);(first|refine eP 1 HS (cs':=#[.slice A (kept d1.f0 d1.f1 d1.f2).length c,.slice A4 d1.f1.length c4,.slice A5 d1.f2.length c5,.int .i64 d1.f3]) (tR _ ⟨kept d1.f0 d1.f1 d1.f2,d1.f1,d1.f2,d1.f3⟩ (Kd.iI HS.q).2.1 (Kd.iI HS.q).2.2 l4 (Kd.az r4 HS.be) l5 (Kd.az r5 HS.be)) ?_|refine eP 0 HS (cs':=#[.slice A (kept d1.f0 d1.f1 d1.f2).length c,.slice A4 d1.f1.length c4,.slice A5 d1.f2.length c5,.int .i64 d1.f3]) (tR _ ⟨kept d1.f0 d1.f1 d1.f2,d1.f1,d1.f2,d1.f3⟩ (Kd.iI HS.q).2.1 (Kd.iI HS.q).2.2 l4 (Kd.az r4 HS.be) l5 (Kd.az r5 HS.be)) ?_|refine eP 0 HS HS.q.bM ?_);intro w1 HT;replace HS:=HT;clear HT;simp only[List.set]at HS))
 ·exact bodyPost_ret (gT rfl _ _ ME 27 _ (0,0) _ rfl (HS.bx _ (.head _)).2.2 Tryz.underlying27 rfl (by rw[Tryz.fZ];rfl)) rfl ⟨HS.be,Or.inr ⟨by first|trivial|decide,_,_,_,rfl,HS.q⟩⟩
 ·exact bodyPost_ret (gT rfl _ _ ME 27 _ (0,0) _ rfl (HS.bx _ (.head _)).2.2 Tryz.underlying27 rfl (by rw[Tryz.fZ];rfl)) rfl ⟨HS.be,Or.inl ⟨by first|trivial|rfl,_,rfl,Kd.dH HS.q (fun k hk=>hk.elim Or.inl (fun h=>Or.inr h.1))⟩⟩
def tY.f (_k:Nat) (a:List aj) (b c:List ab) (n:Int):Option (List aj × List ab × List ab × Int):=if a.length≤1048576∧b.length≤1048576∧c.length≤1048576 then some (kept a b c,b,c,n) else none
def s5.f (_k:Nat) (a:List aj) (b c:List ab) (n:Int) (a':List aj) (b' c':List ab) (n':Int):Option dG:=if BE a b c=true∧BE a' b' c'=true then some (jl a b c n a' b' c' n') else none
theorem Ku {w w':World} {b:Nat} {P P':Nat→Prop} {u v:Value} {l m:List ab} (g:Kd.R ak 89 w b P u l) (g':Kd.R ak 89 w b P' v m) (hp:∀k,P k→¬P' k) (hb:Below w.heap.size w w'):Kd.R ak 89 w' b (fun k=>P k∧some k≠v.ownBlock) u l:=
 Kd.aw (Kd.bu (Kd.mu rfl g) hb) (fun k hk=>⟨g.1 k hk.symm,fun e=>hp k (g.1 k hk.symm) (g'.1 k e.symm)⟩)
theorem tY.calls (k:Nat) (Ti:Nat→Prop) (av:Option Addr) (al:Nat) (aa:List (aj)) (ye:Nat→Prop) (rq:Value) (af:List (ab)) (yf:Nat→Prop) (zG:Value) (ah:List (ab)) (ai:Int) (r1:List (aj)) (r2:List (ab)) (r3:List (ab)) (r4:Int) (w0 w:World) (hB:Below w0.heap.size w0 w) (Xr:Kd.V bf 63 w w0.heap.size (fun k_=>Ti k_∧some k_≠(rq:Value).ownBlock∧some k_≠(zG:Value).ownBlock) (.slice av aa.length al) aa) (Jj:Kd.R ak 89 w w0.heap.size ye rq af) (akd:∀k_,ye k_→¬yf k_) (Jk:Kd.R ak 89 w w0.heap.size yf zG ah) (ake:∀k_,yf k_→¬ye k_) (h:tY.f k aa af ah ai=some (r1,r2,r3,r4)) :
 Calls Tryz.prog 99 #[.agg #[.slice av aa.length al,rq,zG,.int .i64 ai]] w fun e w'=>∃bE cM cN:Value,e = .returned (.agg #[bE,cM,cN,.int .i64 r4])∧Kd.N bf 63 w' w.heap.size (fun k_=>((ye k_∨yf k_∨Ti k_)∨w.heap.size≤k_)∧some k_≠(cM:Value).ownBlock∧some k_≠(cN:Value).ownBlock) bE r1∧Kd.R ak 89 w' w0.heap.size (fun k_=>((ye k_∨yf k_)∨w.heap.size≤k_)∧some k_≠(cN:Value).ownBlock) cM r2∧Kd.R ak 89 w' w0.heap.size (fun k_=>((ye k_∨yf k_)∨w.heap.size≤k_)∧some k_≠(cM:Value).ownBlock) cN r3∧Below w0.heap.size w0 w'∧Kept w w' (fun k_=>ye k_∨yf k_):=by
 obtain⟨A1,c1,rfl,m1,q1⟩:=Kd.lT Jj;obtain⟨A2,c2,rfl,m2,q2⟩:=Kd.lT Jk;have hv:=Kd.yj Xr;unfold tY.f at h;split at h
 ·rename_i hl;simp only[Option.some.injEq,Prod.mk.injEq]at h;obtain⟨rfl,rfl,rfl,rfl⟩:=h;refine(Y6 (d:=⟨aa,af,ah,ai⟩) (Kd.Mk Xr) hv.2.1 q1 m1 q2 m2 hl.1 hl.2.1 hl.2.2).mono (fun e w' ⟨v,he,hN,hb⟩=>⟨v,_,_,he,Kd.dH hN (fun k hk=>?_),Kd.aw (Ku Jj Jk akd hb) (fun k hk=>⟨Or.inl (Or.inl hk.1),hk.2⟩),Kd.aw (Ku Jk Jj ake hb) (fun k hk=>⟨Or.inl (Or.inr hk.1),hk.2⟩),aA hB hb,Kept.kI hb _⟩)
  rcases hk with hk|hk
  ·exact⟨Or.inl (Or.inr (Or.inr hk.1.1)),hk.1.2⟩
  ·exact⟨Or.inr hk,fun e=>by have:=Kd.dK Jj k e.symm;omega,fun e=>by have:=Kd.dK Jk k e.symm;omega⟩
 ·cases h
theorem s5.calls (k:Nat) (av:Option Addr) (al:Nat) (aa:List (aj)) (ar:Option Addr) (an:Nat) (af:List (ab)) (ao:Option Addr) (aq:Nat) (ah:List (ab)) (ai:Int) (Tj:Nat→Prop) (Ra:Option Addr) (TU:Nat) (wY:List (aj)) (rY:Nat→Prop) (rq:Value) (yU:List (ab)) (rZ:Nat→Prop) (zG:Value) (yV:List (ab)) (As:Int) (r1:List (aj)) (r2:List (ab)) (r3:List (ab)) (r4:Int) (r5:Int) (w0 w:World) (hB:Below w0.heap.size w0 w) (cW:∀W_,Kept w W_ (fun k_=>rY k_∨rZ k_)→Kd.C bf W_ av aa.length aa) (cT:aa.length≤al) (cX:∀W_,Kept w W_ (fun k_=>rY k_∨rZ k_)→Kd.C ak W_ ar af.length af) (cU:af.length≤an) (cY:∀W_,Kept w W_ (fun k_=>rY k_∨rZ k_)→Kd.C ak W_ ao ah.length ah) (cV:ah.length≤aq) (Xv:Kd.V bf 63 w w0.heap.size (fun k_=>Tj k_∧some k_≠(rq:Value).ownBlock∧some k_≠(zG:Value).ownBlock) (.slice Ra wY.length TU) wY) (Jl:Kd.R ak 89 w w0.heap.size rY rq yU) (akf:∀k_,rY k_→¬rZ k_) (Jm:Kd.R ak 89 w w0.heap.size rZ zG yV) (akg:∀k_,rZ k_→¬rY k_) (h:s5.f k aa af ah ai wY yU yV As=some (r1,r2,r3,r4,r5)) :
 Calls Tryz.prog 95 #[.agg #[.slice av aa.length al,.slice ar af.length an,.slice ao ah.length aq,.int .i64 ai],.agg #[.slice Ra wY.length TU,rq,zG,.int .i64 As]] w fun e w'=>∃bE cM cN:Value,e = .returned (.tuple #[.agg #[bE,cM,cN,.int .i64 r4],.int .i64 r5])∧Kd.N bf 63 w' w.heap.size (fun k_=>((rY k_∨rZ k_∨Tj k_)∨w.heap.size≤k_)∧some k_≠(cM:Value).ownBlock∧some k_≠(cN:Value).ownBlock) bE r1∧Kd.R ak 89 w' w0.heap.size (fun k_=>((rY k_∨rZ k_)∨w.heap.size≤k_)∧some k_≠(cN:Value).ownBlock) cM r2∧Kd.R ak 89 w' w0.heap.size (fun k_=>((rY k_∨rZ k_)∨w.heap.size≤k_)∧some k_≠(cM:Value).ownBlock) cN r3∧Below w0.heap.size w0 w'∧Kept w w' (fun k_=>rY k_∨rZ k_):=by
 obtain⟨A1,c1,rfl,m1,q1⟩:=Kd.lT Jl;obtain⟨A2,c2,rfl,m2,q2⟩:=Kd.lT Jm;have hv:=Kd.yj Xv;have hw:=hB.size;unfold s5.f at h;split at h
 ·rename_i hl;have h0:=Kept.refl w (fun k_=>rY k_∨rZ k_);have hh:=Option.some.inj h;refine(Y3 (d0:=⟨aa,af,ah,ai⟩) (d1:=⟨wY,yU,yV,As⟩) (tR w ⟨aa,af,ah,ai⟩ cT (cW w h0) cU (cX w h0) cV (cY w h0)) (Kd.GI (Kd.Mk Xv)) hv.2.1 q1 m1 q2 m2 (xi.1 hl.1) (xi.1 hl.2)).mono (fun e w' ⟨hb,hq⟩=>?_)
  rcases hq with ⟨hz,v,he,hN⟩|⟨hz,x0,x1,x2,he,hR⟩
  ·rw[show jl aa af ah ai wY yU yV As=(kept wY yU yV,yU,yV,As,0) from if_pos hz]at hh;simp only[Prod.mk.injEq]at hh;obtain⟨rfl,rfl,rfl,rfl,rfl⟩:=hh;refine⟨v,_,_,he,Kd.dH hN (fun k hk=>?_),Kd.aw (Ku Jl Jm akf hb) (fun k hk=>⟨Or.inl (Or.inl hk.1),hk.2⟩),Kd.aw (Ku Jm Jl akg hb) (fun k hk=>⟨Or.inl (Or.inr hk.1),hk.2⟩),aA hB hb,Kept.kI hb _⟩
   rcases hk with hk|hk
   ·exact⟨Or.inl (Or.inr (Or.inr hk.1.1)),hk.1.2⟩
   ·exact⟨Or.inr hk,fun e=>by have:=Kd.dK Jl k e.symm;omega,fun e=>by have:=Kd.dK Jm k e.symm;omega⟩
  ·rw[show jl aa af ah ai wY yU yV As=(aa,af,ah,ai,4) from if_neg hz]at hh;simp only[Prod.mk.injEq]at hh;obtain⟨rfl,rfl,rfl,rfl,rfl⟩:=hh;exact⟨x0,x1,x2,he,Kd.dH (Kd.yg (Kd.nS (Kd.nS hR.1 (Kd.fj hR.2.1) (by decide)) (Kd.fj hR.2.2) (by decide))) (fun k hk=>⟨Or.inr hk.1.1,hk.1.2,hk.2⟩),Kd.bT (Kd.aw hR.2.1 (fun k hk=>⟨Or.inr hk.1,hk.2⟩)) hw,Kd.bT (Kd.aw hR.2.2 (fun k hk=>⟨Or.inr hk.1,hk.2⟩)) hw,aA hB hb,Kept.kI hb _⟩
 ·cases h
end Go.Proofs.YtingkpnoiekliaaGreat.MZ
end
section

end
section
namespace Go.Proofs.YtingkpnoiekliaaGreat.MZ
open Go.RowKit Go.Proofs.YtingkpnoiekliaaGreatW.PrintWords Go.Proofs.YtingkpnoiekliaaGreatW.PrintLast Go.Proofs.YtingkpnoiekliaaGreatW.PrintMore Go.Proofs.YtingkpnoiekliaaGreat.MWords
attribute [local go_sem] max2_int min2_int max_two min_two max_three min_three max_four min_four
set_option linter.unusedVariables false
set_option linter.unusedSimpArgs false
mutual
def dP.U:Nat→List (ab)→List (ab)→Bool→Int→ByteArray→Int→Option ((List (ab)))
 |0,_,_,_,_,_,_=>none
 |k+1,x0,x5,x6,x7,rA,uh=>if x7<(x0.length:Int) then (if x6=true then (dP.j1 k x0 x5 x6 x7 false rA uh) else (if 0≤x7 then (dP.j1 k x0 x5 x6 x7 (!(Op.bytesLess (((aK x0 x7).f0).toList) rA.toList)) rA uh) else (none))) else (if x6=true then (some x5) else (if x5.length<5864062014805 then (some (x5++[(⟨rA,uh⟩:ab)])) else (none)))
def dP.j1:Nat→List (ab)→List (ab)→Bool→Int→Bool→ByteArray→Int→Option ((List (ab)))
 |0,_,_,_,_,_,_,_=>none
 |k+1,x0,x5,x6,x7,x26,rA,uh=>if x26=true then (if x5.length<5864062014805 then (dP.j2 k x0 (x5++[(⟨rA,uh⟩:ab)]) true x7 rA uh) else (none)) else (dP.j2 k x0 x5 x6 x7 rA uh)
def dP.j2:Nat→List (ab)→List (ab)→Bool→Int→ByteArray→Int→Option ((List (ab)))
 |0,_,_,_,_,_,_=>none
 |k+1,x0,x5,x6,x7,rA,uh=>if 0≤x7 then (if x7<(x0.length:Int) then (if ((aK x0 x7).f0).toList=rA.toList then (dP.U k x0 x5 x6 (wrap64 (x7+1)) rA uh) else (if x5.length<5864062014805 then (dP.U k x0 (x5++[(⟨(aK x0 x7).f0,(aK x0 x7).f1⟩:ab)]) x6 (wrap64 (x7+1)) rA uh) else (none))) else (none)) else (none)
end
def dP.f (k:Nat) (U:List (ab)) (dh:ByteArray) (dC:Int):Option ((List (ab))):=dP.U k U (([]:List (ab))) false 0 dh dC
set_option maxHeartbeats 8000000 in
set_option maxRecDepth 100000 in
theorem dP.calls (k:Nat) (A0:Option Addr) (c0:Nat) (U:List (ab)) (dh:ByteArray) (dC:Int) (r:List (ab)) (w:World) (b9:Kd.C ak w A0 U.length U) (cg:U.length≤c0) (h:dP.f k U dh dC=some r) :
 Calls Tryz.prog 94 #[.slice A0 U.length c0,.agg #[.string dh,.int .i64 dC]] w fun e w'=>∃bE:Value,e = .returned (bE)∧Kd.R ak 89 w' w.heap.size (fun _=>True) bE r∧Below w.heap.size w w':=by
 have On:=Tryz.underlying89;have cr:=J b9;have fy:=J cg;clear b9 cg;have HB:=J (Below.refl w.heap.size w);have H:(dP.U k U (([]:List (ab))) false 0 dh dC)=some r:=h;clear h;obtain⟨aaF,E4⟩:∃y_:List (ab),y_=(([]:List (ab))):=⟨_,rfl⟩;replace H:(dP.U k U aaF false 0 dh dC)=some r:=by first|(rw[E4];with_reducible exact H)|(have ay:=(Option.bind_some _ _).symm.trans H;rw[E4];with_reducible exact ay)|(have ay:=(Option.bind_some _ _).symm.trans H;with_reducible exact ay)|with_reducible exact H|(rw[E4];exact H)|exact H
 have Aj:=J E4;clear E4;have H':=J H;clear H;go_enter Tryz.func94,Tryz.ntmps94;go_wp2_with (first|((with_reducible refine aM (N:=3) rfl ?_);refine bg 3 #[.string dh,.int .i64 dC] 89 ?_;intro gj hg w3 hbox hb;have dS:=J (hbox);have RF:=mG hg (mH HB.1);have gM:=mG hg (mH HB.1);replace HB:=J (aA (mH HB.1) hb);clear hb hbox hg)|((with_reducible refine aM (N:=8) rfl ?_);refine Kd.jc ak _ 89 ?hg (N:=8) ?hd (xs:=([]:List (ab))) (inner:=[]) (ok:=fun _=>True) (okp:=fun _=>True) ?hr ?hp (fun _ hk=>hk) trivial (Below.refl _ _) (Nat.le_refl _) (by simp) ?_;(case hd=>rfl);(case hg=>rfl);(case hr=>first|(go_simp;done)|(go_simp;rfl));(case hp=>exact(ba.none _ _));intro aae w4 kt hb hg_ hnew_;clear hg_ hnew_;(first|rw[←Aj.1]at kt|(simp only[Int.reduceToNat]at kt;rw[←Aj.1]at kt));have Lr:=J (Kd.bT (Kd.uD kt (g:=gj) (o:=.cells #[.string dh,.int .i64 dC] 89 (0,0)) (mK dS.1)) (aQ (aZ HB.1 gM.1)));replace dS:=mB dS hb;replace HB:=J (aA (aZ HB.1 gM.1) hb);clear hb kt))
 repeat (go_quiet (first|((with_reducible refine aM (N:=3) rfl ?_);refine bg 3 #[.string dh,.int .i64 dC] 89 ?_;intro gj hg w3 hbox hb;have dS:=J (hbox);have RF:=mG hg (mH HB.1);have gM:=mG hg (mH HB.1);replace HB:=J (aA (mH HB.1) hb);clear hb hbox hg)|((with_reducible refine aM (N:=8) rfl ?_);refine Kd.jc ak _ 89 ?hg (N:=8) ?hd (xs:=([]:List (ab))) (inner:=[]) (ok:=fun _=>True) (okp:=fun _=>True) ?hr ?hp (fun _ hk=>hk) trivial (Below.refl _ _) (Nat.le_refl _) (by simp) ?_;(case hd=>rfl);(case hg=>rfl);(case hr=>first|(go_simp;done)|(go_simp;rfl));(case hp=>exact(ba.none _ _));intro aae w4 kt hb hg_ hnew_;clear hg_ hnew_;(first|rw[←Aj.1]at kt|(simp only[Int.reduceToNat]at kt;rw[←Aj.1]at kt));have Lr:=J (Kd.bT (Kd.uD kt (g:=gj) (o:=.cells #[.string dh,.int .i64 dC] 89 (0,0)) (mK dS.1)) (aQ (aZ HB.1 gM.1)));replace dS:=mB dS hb;replace HB:=J (aA (aZ HB.1 gM.1) hb);clear hb kt));try go_wp2_with (first|((with_reducible refine aM (N:=3) rfl ?_);refine bg 3 #[.string dh,.int .i64 dC] 89 ?_;intro gj hg w3 hbox hb;have dS:=J (hbox);have RF:=mG hg (mH HB.1);have gM:=mG hg (mH HB.1);replace HB:=J (aA (mH HB.1) hb);clear hb hbox hg)|((with_reducible refine aM (N:=8) rfl ?_);refine Kd.jc ak _ 89 ?hg (N:=8) ?hd (xs:=([]:List (ab))) (inner:=[]) (ok:=fun _=>True) (okp:=fun _=>True) ?hr ?hp (fun _ hk=>hk) trivial (Below.refl _ _) (Nat.le_refl _) (by simp) ?_;(case hd=>rfl);(case hg=>rfl);(case hr=>first|(go_simp;done)|(go_simp;rfl));(case hp=>exact(ba.none _ _));intro aae w4 kt hb hg_ hnew_;clear hg_ hnew_;(first|rw[←Aj.1]at kt|(simp only[Int.reduceToNat]at kt;rw[←Aj.1]at kt));have Lr:=J (Kd.bT (Kd.uD kt (g:=gj) (o:=.cells #[.string dh,.int .i64 dC] 89 (0,0)) (mK dS.1)) (aQ (aZ HB.1 gM.1)));replace dS:=mB dS hb;replace HB:=J (aA (aZ HB.1 gM.1) hb);clear hb kt)))
 go_loopg [5,6,7] k (fun kq v5 v6 v7 w'=>∃(aY:List (ab)) (eQ:Bool) (cF:Int),v6 = .bool eQ∧v7 = .int .i64 cF∧Aside0 (dP.U kq U aY eQ cF dh dC=some r)∧Aside0 (kq≤k)∧Aside0 (Kd.R ak 89 w' w.heap.size (fun k_=>k_≠gj) v5 aY)∧Aside0 (w'.heap[gj]? = some (.cells #[.string dh,.int .i64 dC] 89 (0,0)))∧Aside0 (Below w.heap.size w w'))
 case atStart=>exact⟨(aaF),(false),(0),mE,mE,H',⟨Nat.le_refl _⟩,⟨by refine mR ?_;exact Kd.aw Lr.1 (fun _ hk=>hk.2)⟩,⟨mK dS.1⟩,⟨(aZ HB.1 gM.1)⟩⟩
 case round=>
  clear H'
  obtain⟨aY,eQ,cF,rfl,rfl,HA,bo,du,dS,HB⟩:=hrel;cases gk with
  |zero=>exact absurd HA.1 (by simp[dP.U])
  |succ k1=>
   have H:=HA.1;clear HA;simp only[dP.U]at H;by_cases c6:cF<(U.length:Int)
   ·rw[if_pos c6]at H;have hJ:=decide_eq_true c6;clear c6;have xT:=J H;clear H;go_upto_region 6 with (fail)
    repeat (go_quiet (fail);go_upto_region 6 with (fail))
    go_cut [26] (fun v26 wc=>∃(kq:Nat) (KI:Bool),v26 = .bool KI∧Aside0 (dP.j1 kq U aY eQ cF KI dh dC=some r)∧Aside0 (kq≤k1)∧Aside0 (Kd.R ak 89 wc w.heap.size (fun k_=>k_≠gj) u5 aY)∧Aside0 (wc.heap[gj]? = some (.cells #[.string dh,.int .i64 dC] 89 (0,0)))∧Aside0 (Below w.heap.size w wc))
    case first=>
     have H:=xT.1;clear xT;by_cases c8:eQ=true
     ·subst c8;have H1:=H;rw[if_pos rfl]at H1;clear H;have H:=H1;clear H1;have H':=J H;clear H;go_wp2
      repeat (go_quiet (fail);try go_wp2)
      go_meet
      case rel=>exact⟨_,(false),mE,H',⟨by have:=bo.1;first|omega|exact Nat.le_refl _⟩,⟨mR du.1⟩,⟨mK dS.1⟩,⟨(aZ HB.1 gM.1)⟩⟩
     ·replace c8:=Bool.eq_false_iff.mpr c8;subst c8;have H1:=H;rw[if_neg (show ¬(false=true) by decide)]at H1;clear H;have H:=H1;clear H1;by_cases c9:0≤cF
      ·rw[if_pos c9]at H;have qm:=decide_eq_true c9;clear c9
       (first|rw[qm]|(simp only[dD,fU];rw[qm])|skip)
       have H':=J H;clear H;have Pa:0≤(cF:Int):=mD;have PI:cF<(U.length:Int):=mD;obtain⟨ao7,afY,XO,XP⟩:=jw cr.1 cF Pa PI;cases afY
       replace XO:=mX HB.1 XO;replace XP:=mX HB.1 XP;replace Pa:=eq_true Pa;replace PI:=eq_true PI;obtain⟨AN,AO,AX,AY⟩:=rj dS.1;go_wp2
       repeat (go_quiet (fail);try go_wp2)
       go_meet
       case rel=>exact⟨_,(!(Op.bytesLess (((aK U cF).f0).toList) dh.toList)),mE,H',⟨by have:=bo.1;first|omega|exact Nat.le_refl _⟩,⟨mR du.1⟩,⟨mK dS.1⟩,⟨(aZ HB.1 gM.1)⟩⟩
      ·rw[if_neg c9]at H;exact absurd H (by simp)
    case rest=>
     clear xT
     try clear c6
     try clear hJ
     obtain⟨kq,KI,rfl,HA,ur,du,dS,HB⟩:=hcut;cases kq with
     |zero=>exact absurd HA.1 (by simp[dP.j1])
     |succ Jz=>
      have H:=HA.1;clear HA;simp only[dP.j1]at H;have xP:=J H;clear H;go_upto_if 26 with (fail)
      repeat (go_quiet (fail);go_upto_if 26 with (fail))
      go_cut [5,6] (fun v5 v6 wc=>∃(kq:Nat) (vG:List (ab)) (BX:Bool),v6 = .bool BX∧Aside0 (dP.j2 kq U vG BX cF dh dC=some r)∧Aside0 (kq≤Jz)∧Aside0 (Kd.R ak 89 wc w.heap.size (fun k_=>k_≠gj) v5 vG)∧Aside0 (wc.heap[gj]? = some (.cells #[.string dh,.int .i64 dC] 89 (0,0)))∧Aside0 (Below w.heap.size w wc))
      case first=>
       have H:=xP.1;clear xP;by_cases dX:KI=true
       ·subst dX;have H1:=H;rw[if_pos rfl]at H1;clear H;have H:=H1;clear H1;by_cases cQ:aY.length<5864062014805
        ·rw[if_pos cQ]at H;have Cw:=J cQ;clear cQ;obtain⟨aaG,E5⟩:∃y_:List (ab),y_=(aY++[(⟨dh,dC⟩:ab)]):=⟨_,rfl⟩;replace H:(dP.j2 Jz U aaG true cF dh dC)=some r:=by first|(rw[E5];with_reducible exact H)|(have ay:=(Option.bind_some _ _).symm.trans H;rw[E5];with_reducible exact ay)|(have ay:=(Option.bind_some _ _).symm.trans H;with_reducible exact ay)|with_reducible exact H|(rw[E5];exact H)|exact H
         have L8:=J E5;clear E5;have H':=J H;clear H;obtain⟨AP,AQ,AZ,Ba⟩:=rj dS.1;go_wp2_with (first|((with_reducible refine iK (b:=.append) (xs:=#[.tmp 27,.tmp 29]) rfl ?_);at_builtin;refine Kd.lR ak (w0:=w) w.heap.size rfl (.tmp 27) (.tmp 29) 25 89 (.agg #[(.string ⟨#[]⟩),(.int .i64 0)]) 24 rfl Tryz.underlying25 jr rfl (by decide) (by omega) u5 aY (⟨dh,dC⟩:ab) [.string dh,.int .i64 dC] (fun k_=>k_≠gj) (fun _=>False) rfl rfl ?aP (fun _ hk=>hk.elim) ?aF ?aO ?aB ?aS ?aL ?_;(case aP=>exact pH _ _ _ (⟨dh,dC⟩:ab));(case aB=>exact(aZ HB.1 gM.1));(case aF=>exact(fun k_ hk=>Kd.fF (g:=gj) (o:=.cells #[.string dh,.int .i64 dC] 89 (0,0)) (mK dS.1) k_ hk));(case aO=>exact(mR du.1));(case aS=>exact(aQ (aZ HB.1 gM.1)));(case aL=>have:=Cw.1;omega);intro aaf mM ho hb hg hat;rw[←L8.1]at ho;replace dS:=J (cL (g:=gj) (o:=.cells #[.string dh,.int .i64 dC] 89 (0,0)) (mK dS.1) hg (Kd.qO du.1 (fun _ hk=>hk)));replace HB:=J (hb);have Ls:=J (ho);clear du;clear ho hb hg hat))
         repeat (go_quiet (first|((with_reducible refine iK (b:=.append) (xs:=#[.tmp 27,.tmp 29]) rfl ?_);at_builtin;refine Kd.lR ak (w0:=w) w.heap.size rfl (.tmp 27) (.tmp 29) 25 89 (.agg #[(.string ⟨#[]⟩),(.int .i64 0)]) 24 rfl Tryz.underlying25 jr rfl (by decide) (by omega) u5 aY (⟨dh,dC⟩:ab) [.string dh,.int .i64 dC] (fun k_=>k_≠gj) (fun _=>False) rfl rfl ?aP (fun _ hk=>hk.elim) ?aF ?aO ?aB ?aS ?aL ?_;(case aP=>exact pH _ _ _ (⟨dh,dC⟩:ab));(case aB=>exact(aZ HB.1 gM.1));(case aF=>exact(fun k_ hk=>Kd.fF (g:=gj) (o:=.cells #[.string dh,.int .i64 dC] 89 (0,0)) (mK dS.1) k_ hk));(case aO=>exact(mR du.1));(case aS=>exact(aQ (aZ HB.1 gM.1)));(case aL=>have:=Cw.1;omega);intro aaf mM ho hb hg hat;rw[←L8.1]at ho;replace dS:=J (cL (g:=gj) (o:=.cells #[.string dh,.int .i64 dC] 89 (0,0)) (mK dS.1) hg (Kd.qO du.1 (fun _ hk=>hk)));replace HB:=J (hb);have Ls:=J (ho);clear du;clear ho hb hg hat));try go_wp2_with (first|((with_reducible refine iK (b:=.append) (xs:=#[.tmp 27,.tmp 29]) rfl ?_);at_builtin;refine Kd.lR ak (w0:=w) w.heap.size rfl (.tmp 27) (.tmp 29) 25 89 (.agg #[(.string ⟨#[]⟩),(.int .i64 0)]) 24 rfl Tryz.underlying25 jr rfl (by decide) (by omega) u5 aY (⟨dh,dC⟩:ab) [.string dh,.int .i64 dC] (fun k_=>k_≠gj) (fun _=>False) rfl rfl ?aP (fun _ hk=>hk.elim) ?aF ?aO ?aB ?aS ?aL ?_;(case aP=>exact pH _ _ _ (⟨dh,dC⟩:ab));(case aB=>exact(aZ HB.1 gM.1));(case aF=>exact(fun k_ hk=>Kd.fF (g:=gj) (o:=.cells #[.string dh,.int .i64 dC] 89 (0,0)) (mK dS.1) k_ hk));(case aO=>exact(mR du.1));(case aS=>exact(aQ (aZ HB.1 gM.1)));(case aL=>have:=Cw.1;omega);intro aaf mM ho hb hg hat;rw[←L8.1]at ho;replace dS:=J (cL (g:=gj) (o:=.cells #[.string dh,.int .i64 dC] 89 (0,0)) (mK dS.1) hg (Kd.qO du.1 (fun _ hk=>hk)));replace HB:=J (hb);have Ls:=J (ho);clear du;clear ho hb hg hat)))
         go_meet
         case rel=>exact⟨_,(aaG),(true),mE,H',⟨by have:=bo.1;have:=ur.1;first|omega|exact Nat.le_refl _⟩,⟨mR Ls.1⟩,⟨mK dS.1⟩,⟨(aZ HB.1 gM.1)⟩⟩
        ·rw[if_neg cQ]at H;exact absurd H (by simp)
       ·replace dX:=Bool.eq_false_iff.mpr dX;subst dX;have H1:=H;rw[if_neg (show ¬(false=true) by decide)]at H1;clear H;have H:=H1;clear H1;have H':=J H;clear H;go_wp2
        repeat (go_quiet (fail);try go_wp2)
        go_meet
        case rel=>exact⟨_,(aY),(eQ),mE,H',⟨by have:=bo.1;have:=ur.1;first|omega|exact Nat.le_refl _⟩,⟨mR du.1⟩,⟨mK dS.1⟩,⟨(aZ HB.1 gM.1)⟩⟩
      case rest=>
       clear xP
       try clear c6
       try clear hJ
       obtain⟨kq,vG,BX,rfl,HA,xU,du,dS,HB⟩:=hcut;cases kq with
       |zero=>exact absurd HA.1 (by simp[dP.j2])
       |succ FN=>
        have H:=HA.1;clear HA;simp only[dP.j2]at H;by_cases jk:0≤cF
        ·rw[if_pos jk]at H;have MG:=decide_eq_true jk;clear jk;by_cases uL:cF<(U.length:Int)
         ·rw[if_pos uL]at H;have apb:=decide_eq_true uL;clear uL;by_cases nk:((aK U cF).f0).toList=dh.toList
          ·rw[if_pos nk]at H;have aeU:(((aK U cF).f0).toList == dh.toList)=true:=beq_iff_eq.mpr nk;have aeV:(((aK U cF).f0).toList != dh.toList)=false:=bne_eq_false_iff_eq.mpr nk;clear nk;have H':=J H;clear H;have zd:0≤(cF:Int):=mD;have zr:cF<(U.length:Int):=mD;obtain⟨TC,M7,Ep,Er⟩:=jw cr.1 cF zd zr;cases M7
           replace Ep:=mX HB.1 Ep;replace Er:=mX HB.1 Er;replace zd:=eq_true zd;replace zr:=eq_true zr;obtain⟨DL,DM,DP,DQ⟩:=rj dS.1;go_wp2
           repeat (go_quiet (fail);try go_wp2)
           go_roundg FN
           case measure=>have:=bo.1;have:=ur.1;have:=xU.1;omega
           case rel=>exact⟨(vG),(BX),(wrap64 (cF+1)),mE,mE,H',⟨by have:=bo.1;have:=ur.1;have:=xU.1;omega⟩,⟨mR du.1⟩,⟨mK dS.1⟩,⟨(aZ HB.1 gM.1)⟩⟩
          ·rw[if_neg nk]at H;have aeU:(((aK U cF).f0).toList == dh.toList)=false:=beq_eq_false_iff_ne.mpr nk;have aeV:(((aK U cF).f0).toList != dh.toList)=true:=bne_iff_ne.mpr nk;by_cases tF:vG.length<5864062014805
           ·rw[if_pos tF]at H;have Cx:=J tF;clear tF;obtain⟨aaI,E7⟩:∃y_:List (ab),y_=(vG++[(⟨(aK U cF).f0,(aK U cF).f1⟩:ab)]):=⟨_,rfl⟩;replace H:(dP.U FN U aaI BX (wrap64 (cF+1)) dh dC)=some r:=by first|(rw[E7];with_reducible exact H)|(have ay:=(Option.bind_some _ _).symm.trans H;rw[E7];with_reducible exact ay)|(have ay:=(Option.bind_some _ _).symm.trans H;with_reducible exact ay)|with_reducible exact H|(rw[E7];exact H)|exact H
            have L9:=J E7;clear E7;have H':=J H;clear H;have zd:0≤(cF:Int):=mD;have zr:cF<(U.length:Int):=mD;obtain⟨TC,M7,Ep,Er⟩:=jw cr.1 cF zd zr;cases M7
            replace Ep:=mX HB.1 Ep;replace Er:=mX HB.1 Er;replace zd:=eq_true zd;replace zr:=eq_true zr;obtain⟨It,Iu,IV,IW⟩:=rj dS.1;have Pb:0≤(cF:Int):=mD;have PJ:cF<(U.length:Int):=mD;obtain⟨aer,afZ,XQ,XR⟩:=jw cr.1 cF Pb PJ;obtain rfl:TC=aer:=(by injection afZ);replace XQ:=mX HB.1 XQ;replace XR:=mX HB.1 XR;replace Pb:=eq_true Pb;replace PJ:=eq_true PJ;go_wp2_with (first|((with_reducible refine iK (b:=.append) (xs:=#[.tmp 39,.tmp 44]) rfl ?_);at_builtin;refine Kd.lR ak (w0:=w) w.heap.size rfl (.tmp 39) (.tmp 44) 25 89 (.agg #[(.string ⟨#[]⟩),(.int .i64 0)]) 24 rfl Tryz.underlying25 jr rfl (by decide) (by omega) u5 vG (⟨(aK U cF).f0,(aK U cF).f1⟩:ab) [.string ((aK U cF).f0),.int .i64 ((aK U cF).f1)] (fun k_=>k_≠gj) (fun _=>False) rfl rfl ?aP (fun _ hk=>hk.elim) ?aF ?aO ?aB ?aS ?aL ?_;(case aP=>exact pH _ _ _ (⟨(aK U cF).f0,(aK U cF).f1⟩:ab));(case aB=>exact(aZ HB.1 gM.1));(case aF=>exact(fun k_ hk=>Kd.fF (g:=gj) (o:=.cells #[.string dh,.int .i64 dC] 89 (0,0)) (mK dS.1) k_ hk));(case aO=>exact(mR du.1));(case aS=>exact(aQ (aZ HB.1 gM.1)));(case aL=>have:=Cx.1;omega);intro aag Kz ho hb hg hat;rw[←L9.1]at ho;replace dS:=J (cL (g:=gj) (o:=.cells #[.string dh,.int .i64 dC] 89 (0,0)) (mK dS.1) hg (Kd.qO du.1 (fun _ hk=>hk)));replace HB:=J (hb);have Lt:=J (ho);clear du;clear ho hb hg hat))
            repeat (go_quiet (first|((with_reducible refine iK (b:=.append) (xs:=#[.tmp 39,.tmp 44]) rfl ?_);at_builtin;refine Kd.lR ak (w0:=w) w.heap.size rfl (.tmp 39) (.tmp 44) 25 89 (.agg #[(.string ⟨#[]⟩),(.int .i64 0)]) 24 rfl Tryz.underlying25 jr rfl (by decide) (by omega) u5 vG (⟨(aK U cF).f0,(aK U cF).f1⟩:ab) [.string ((aK U cF).f0),.int .i64 ((aK U cF).f1)] (fun k_=>k_≠gj) (fun _=>False) rfl rfl ?aP (fun _ hk=>hk.elim) ?aF ?aO ?aB ?aS ?aL ?_;(case aP=>exact pH _ _ _ (⟨(aK U cF).f0,(aK U cF).f1⟩:ab));(case aB=>exact(aZ HB.1 gM.1));(case aF=>exact(fun k_ hk=>Kd.fF (g:=gj) (o:=.cells #[.string dh,.int .i64 dC] 89 (0,0)) (mK dS.1) k_ hk));(case aO=>exact(mR du.1));(case aS=>exact(aQ (aZ HB.1 gM.1)));(case aL=>have:=Cx.1;omega);intro aag Kz ho hb hg hat;rw[←L9.1]at ho;replace dS:=J (cL (g:=gj) (o:=.cells #[.string dh,.int .i64 dC] 89 (0,0)) (mK dS.1) hg (Kd.qO du.1 (fun _ hk=>hk)));replace HB:=J (hb);have Lt:=J (ho);clear du;clear ho hb hg hat));try go_wp2_with (first|((with_reducible refine iK (b:=.append) (xs:=#[.tmp 39,.tmp 44]) rfl ?_);at_builtin;refine Kd.lR ak (w0:=w) w.heap.size rfl (.tmp 39) (.tmp 44) 25 89 (.agg #[(.string ⟨#[]⟩),(.int .i64 0)]) 24 rfl Tryz.underlying25 jr rfl (by decide) (by omega) u5 vG (⟨(aK U cF).f0,(aK U cF).f1⟩:ab) [.string ((aK U cF).f0),.int .i64 ((aK U cF).f1)] (fun k_=>k_≠gj) (fun _=>False) rfl rfl ?aP (fun _ hk=>hk.elim) ?aF ?aO ?aB ?aS ?aL ?_;(case aP=>exact pH _ _ _ (⟨(aK U cF).f0,(aK U cF).f1⟩:ab));(case aB=>exact(aZ HB.1 gM.1));(case aF=>exact(fun k_ hk=>Kd.fF (g:=gj) (o:=.cells #[.string dh,.int .i64 dC] 89 (0,0)) (mK dS.1) k_ hk));(case aO=>exact(mR du.1));(case aS=>exact(aQ (aZ HB.1 gM.1)));(case aL=>have:=Cx.1;omega);intro aag Kz ho hb hg hat;rw[←L9.1]at ho;replace dS:=J (cL (g:=gj) (o:=.cells #[.string dh,.int .i64 dC] 89 (0,0)) (mK dS.1) hg (Kd.qO du.1 (fun _ hk=>hk)));replace HB:=J (hb);have Lt:=J (ho);clear du;clear ho hb hg hat)))
            go_roundg FN
            case measure=>have:=bo.1;have:=ur.1;have:=xU.1;omega
            case rel=>exact⟨(aaI),(BX),(wrap64 (cF+1)),mE,mE,H',⟨by have:=bo.1;have:=ur.1;have:=xU.1;omega⟩,⟨mR Lt.1⟩,⟨mK dS.1⟩,⟨(aZ HB.1 gM.1)⟩⟩
           ·rw[if_neg tF]at H;exact absurd H (by simp)
         ·rw[if_neg uL]at H;exact absurd H (by simp)
        ·rw[if_neg jk]at H;exact absurd H (by simp)
   ·rw[if_neg c6]at H;have hJ:=decide_eq_false c6;clear c6;by_cases kP:eQ=true
    ·subst kP;have H1:=H;rw[if_pos rfl]at H1;clear H;have H:=H1;clear H1;obtain rfl:=Option.some.inj H;go_wp2
     repeat (go_quiet (fail);try go_wp2)
     go_ret;exact⟨_,cP,by refine mR ?_;exact Kd.aw du.1 (fun _ hk=>trivial),(aZ HB.1 gM.1)⟩
    ·replace kP:=Bool.eq_false_iff.mpr kP;subst kP;have H1:=H;rw[if_neg (show ¬(false=true) by decide)]at H1;clear H;have H:=H1;clear H1;by_cases lZ:aY.length<5864062014805
     ·rw[if_pos lZ]at H;have LI:=J lZ;clear lZ;obtain⟨an6,E8⟩:∃y_:List (ab),y_=(aY++[(⟨dh,dC⟩:ab)]):=⟨_,rfl⟩;replace H:(some an6)=some r:=by first|(rw[E8];with_reducible exact H)|(have ay:=(Option.bind_some _ _).symm.trans H;rw[E8];with_reducible exact ay)|(have ay:=(Option.bind_some _ _).symm.trans H;with_reducible exact ay)|with_reducible exact H|(rw[E8];exact H)|exact H
      have Ma:=J E8;clear E8;obtain rfl:=Option.some.inj H;obtain⟨VF,VG,Wc,Wd⟩:=rj dS.1;go_wp2_with (first|((with_reducible refine iK (b:=.append) (xs:=#[.tmp 48,.tmp 50]) rfl ?_);at_builtin;refine Kd.lR ak (w0:=w) w.heap.size rfl (.tmp 48) (.tmp 50) 25 89 (.agg #[(.string ⟨#[]⟩),(.int .i64 0)]) 24 rfl Tryz.underlying25 jr rfl (by decide) (by omega) u5 aY (⟨dh,dC⟩:ab) [.string dh,.int .i64 dC] (fun k_=>k_≠gj) (fun _=>False) rfl rfl ?aP (fun _ hk=>hk.elim) ?aF ?aO ?aB ?aS ?aL ?_;(case aP=>exact pH _ _ _ (⟨dh,dC⟩:ab));(case aB=>exact(aZ HB.1 gM.1));(case aF=>exact(fun k_ hk=>Kd.fF (g:=gj) (o:=.cells #[.string dh,.int .i64 dC] 89 (0,0)) (mK dS.1) k_ hk));(case aO=>exact(mR du.1));(case aS=>exact(aQ (aZ HB.1 gM.1)));(case aL=>have:=LI.1;omega);intro aah BS ho hb hg hat;rw[←Ma.1]at ho;replace dS:=J (cL (g:=gj) (o:=.cells #[.string dh,.int .i64 dC] 89 (0,0)) (mK dS.1) hg (Kd.qO du.1 (fun _ hk=>hk)));replace HB:=J (hb);have Lu:=J (ho);clear du;clear ho hb hg hat))
      repeat (go_quiet (first|((with_reducible refine iK (b:=.append) (xs:=#[.tmp 48,.tmp 50]) rfl ?_);at_builtin;refine Kd.lR ak (w0:=w) w.heap.size rfl (.tmp 48) (.tmp 50) 25 89 (.agg #[(.string ⟨#[]⟩),(.int .i64 0)]) 24 rfl Tryz.underlying25 jr rfl (by decide) (by omega) u5 aY (⟨dh,dC⟩:ab) [.string dh,.int .i64 dC] (fun k_=>k_≠gj) (fun _=>False) rfl rfl ?aP (fun _ hk=>hk.elim) ?aF ?aO ?aB ?aS ?aL ?_;(case aP=>exact pH _ _ _ (⟨dh,dC⟩:ab));(case aB=>exact(aZ HB.1 gM.1));(case aF=>exact(fun k_ hk=>Kd.fF (g:=gj) (o:=.cells #[.string dh,.int .i64 dC] 89 (0,0)) (mK dS.1) k_ hk));(case aO=>exact(mR du.1));(case aS=>exact(aQ (aZ HB.1 gM.1)));(case aL=>have:=LI.1;omega);intro aah BS ho hb hg hat;rw[←Ma.1]at ho;replace dS:=J (cL (g:=gj) (o:=.cells #[.string dh,.int .i64 dC] 89 (0,0)) (mK dS.1) hg (Kd.qO du.1 (fun _ hk=>hk)));replace HB:=J (hb);have Lu:=J (ho);clear du;clear ho hb hg hat));try go_wp2_with (first|((with_reducible refine iK (b:=.append) (xs:=#[.tmp 48,.tmp 50]) rfl ?_);at_builtin;refine Kd.lR ak (w0:=w) w.heap.size rfl (.tmp 48) (.tmp 50) 25 89 (.agg #[(.string ⟨#[]⟩),(.int .i64 0)]) 24 rfl Tryz.underlying25 jr rfl (by decide) (by omega) u5 aY (⟨dh,dC⟩:ab) [.string dh,.int .i64 dC] (fun k_=>k_≠gj) (fun _=>False) rfl rfl ?aP (fun _ hk=>hk.elim) ?aF ?aO ?aB ?aS ?aL ?_;(case aP=>exact pH _ _ _ (⟨dh,dC⟩:ab));(case aB=>exact(aZ HB.1 gM.1));(case aF=>exact(fun k_ hk=>Kd.fF (g:=gj) (o:=.cells #[.string dh,.int .i64 dC] 89 (0,0)) (mK dS.1) k_ hk));(case aO=>exact(mR du.1));(case aS=>exact(aQ (aZ HB.1 gM.1)));(case aL=>have:=LI.1;omega);intro aah BS ho hb hg hat;rw[←Ma.1]at ho;replace dS:=J (cL (g:=gj) (o:=.cells #[.string dh,.int .i64 dC] 89 (0,0)) (mK dS.1) hg (Kd.qO du.1 (fun _ hk=>hk)));replace HB:=J (hb);have Lu:=J (ho);clear du;clear ho hb hg hat)))
      go_ret;exact⟨_,cP,by refine mR ?_;exact Kd.aw Lu.1 (fun _ hk=>trivial),(aZ HB.1 gM.1)⟩
     ·rw[if_neg lZ]at H;exact absurd H (by simp)
end Go.Proofs.YtingkpnoiekliaaGreat.MZ
end
section
namespace Go.Proofs.YtingkpnoiekliaaGreat.MZ
open Go.RowKit Go.Proofs.YtingkpnoiekliaaGreatW.PrintWords Go.Proofs.YtingkpnoiekliaaGreatW.PrintLast Go.Proofs.YtingkpnoiekliaaGreatW.PrintMore Go.Proofs.YtingkpnoiekliaaGreat.MWords
attribute [local go_sem] max2_int min2_int max_two min_two max_three min_three max_four min_four
set_option linter.unusedVariables false
set_option linter.unusedSimpArgs false
def me.U:Nat→List (ab)→ByteArray→List (ab)→Int→Option ((List (ab)))
 |0,_,_,_,_=>none
 |k+1,x0,x1,x5,x6=>if x6<(x0.length:Int) then (if 0≤x6 then (if ((aK x0 x6).f0).toList=x1.toList then (me.U k x0 x1 x5 (wrap64 (x6+1))) else (if x5.length<5864062014805 then (me.U k x0 x1 (x5++[(⟨(aK x0 x6).f0,(aK x0 x6).f1⟩:ab)]) (wrap64 (x6+1))) else (none))) else (none)) else (some x5)
def me.f (k:Nat) (U:List (ab)) (a1:ByteArray):Option ((List (ab))):=me.U k U a1 (([]:List (ab))) 0
set_option maxHeartbeats 8000000 in
set_option maxRecDepth 100000 in
theorem me.calls (k:Nat) (A0:Option Addr) (c0:Nat) (U:List (ab)) (a1:ByteArray) (r:List (ab)) (w:World) (b9:Kd.C ak w A0 U.length U) (cg:U.length≤c0) (h:me.f k U a1=some r) :
 Calls Tryz.prog 113 #[.slice A0 U.length c0,.string a1] w fun e w'=>∃bE:Value,e = .returned (bE)∧Kd.R ak 89 w' w.heap.size (fun _=>True) bE r∧Below w.heap.size w w':=by
 have On:=Tryz.underlying89;have cr:=J b9;have fy:=J cg;clear b9 cg;have HB:=J (Below.refl w.heap.size w);have H:(me.U k U a1 (([]:List (ab))) 0)=some r:=h;clear h;obtain⟨aaK,Fa⟩:∃y_:List (ab),y_=(([]:List (ab))):=⟨_,rfl⟩;replace H:(me.U k U a1 aaK 0)=some r:=by first|(rw[Fa];with_reducible exact H)|(have ay:=(Option.bind_some _ _).symm.trans H;rw[Fa];with_reducible exact ay)|(have ay:=(Option.bind_some _ _).symm.trans H;with_reducible exact ay)|with_reducible exact H|(rw[Fa];exact H)|exact H
 have S7:=J Fa;clear Fa;have H':=J H;clear H;go_enter Tryz.func113,Tryz.ntmps113;go_wp2_with (first|((with_reducible refine aM (N:=7) rfl ?_);refine Kd.jc ak _ 89 ?hg (N:=7) ?hd (xs:=([]:List (ab))) (inner:=[]) (ok:=fun _=>True) (okp:=fun _=>True) ?hr ?hp (fun _ hk=>hk) trivial (Below.refl _ _) (Nat.le_refl _) (by simp) ?_;(case hd=>rfl);(case hg=>rfl);(case hr=>first|(go_simp;done)|(go_simp;rfl));(case hp=>exact(ba.none _ _));intro azs w3 nB hb hg_ hnew_;clear hg_ hnew_;(first|rw[←S7.1]at nB|(simp only[Int.reduceToNat]at nB;rw[←S7.1]at nB));have abR:=J (Kd.bT nB (aQ (mH HB.1)));replace HB:=J (aA (mH HB.1) hb);clear hb nB));go_loopg [5,6] k (fun kq v5 v6 w'=>∃(aY:List (ab)) (eQ:Int),v6 = .int .i64 eQ∧Aside0 (me.U kq U a1 aY eQ=some r)∧Aside0 (kq≤k)∧Aside0 (Kd.R ak 89 w' w.heap.size (fun _=>True) v5 aY)∧Aside0 (Below w.heap.size w w'))
 case atStart=>exact⟨(aaK),(0),mE,H',⟨Nat.le_refl _⟩,⟨mR abR.1⟩,⟨(mH HB.1)⟩⟩
 case round=>
  clear H'
  obtain⟨aY,eQ,rfl,HA,bo,du,HB⟩:=hrel;cases gk with
  |zero=>exact absurd HA.1 (by simp[me.U])
  |succ k1=>
   have H:=HA.1;clear HA;simp only[me.U]at H;by_cases c5:eQ<(U.length:Int)
   ·rw[if_pos c5]at H;have gx:=decide_eq_true c5;clear c5;by_cases c6:0≤eQ
    ·rw[if_pos c6]at H;have hJ:=decide_eq_true c6;clear c6;by_cases c7:((aK U eQ).f0).toList=a1.toList
     ·rw[if_pos c7]at H;have oO:(((aK U eQ).f0).toList == a1.toList)=true:=beq_iff_eq.mpr c7;have Ht:(((aK U eQ).f0).toList != a1.toList)=false:=bne_eq_false_iff_eq.mpr c7;clear c7;have H':=J H;clear H;have ze:0≤(eQ:Int):=mD;have zt:eQ<(U.length:Int):=mD;obtain⟨TD,M8,Es,Et⟩:=jw cr.1 eQ ze zt;cases M8
      replace Es:=mX HB.1 Es;replace Et:=mX HB.1 Et;replace ze:=eq_true ze;replace zt:=eq_true zt;go_wp2;go_roundg k1
      case measure=>have:=bo.1;omega
      case rel=>exact⟨(aY),(wrap64 (eQ+1)),mE,H',⟨by have:=bo.1;omega⟩,⟨mR du.1⟩,⟨(mH HB.1)⟩⟩
     ·rw[if_neg c7]at H;have oO:(((aK U eQ).f0).toList == a1.toList)=false:=beq_eq_false_iff_ne.mpr c7;have Ht:(((aK U eQ).f0).toList != a1.toList)=true:=bne_iff_ne.mpr c7;by_cases c8:aY.length<5864062014805
      ·rw[if_pos c8]at H;have acv:=J c8;clear c8;obtain⟨aaL,Fb⟩:∃y_:List (ab),y_=(aY++[(⟨(aK U eQ).f0,(aK U eQ).f1⟩:ab)]):=⟨_,rfl⟩;replace H:(me.U k1 U a1 aaL (wrap64 (eQ+1)))=some r:=by first|(rw[Fb];with_reducible exact H)|(have ay:=(Option.bind_some _ _).symm.trans H;rw[Fb];with_reducible exact ay)|(have ay:=(Option.bind_some _ _).symm.trans H;with_reducible exact ay)|with_reducible exact H|(rw[Fb];exact H)|exact H
       have adD:=J Fb;clear Fb;have H':=J H;clear H;have ze:0≤(eQ:Int):=mD;have zt:eQ<(U.length:Int):=mD;obtain⟨TD,M8,Es,Et⟩:=jw cr.1 eQ ze zt;cases M8
       replace Es:=mX HB.1 Es;replace Et:=mX HB.1 Et;replace ze:=eq_true ze;replace zt:=eq_true zt;have Pf:0≤(eQ:Int):=mD;have PL:eQ<(U.length:Int):=mD;obtain⟨aes,af2,XV,XW⟩:=jw cr.1 eQ Pf PL;obtain rfl:TD=aes:=(by injection af2);replace XV:=mX HB.1 XV;replace XW:=mX HB.1 XW;replace Pf:=eq_true Pf;replace PL:=eq_true PL;go_wp2_with (first|((with_reducible refine iK (b:=.append) (xs:=#[.tmp 21,.tmp 26]) rfl ?_);at_builtin;refine Kd.lR ak (w0:=w) w.heap.size rfl (.tmp 21) (.tmp 26) 25 89 (.agg #[(.string ⟨#[]⟩),(.int .i64 0)]) 24 rfl Tryz.underlying25 jr rfl (by decide) (by omega) u5 aY (⟨(aK U eQ).f0,(aK U eQ).f1⟩:ab) [.string ((aK U eQ).f0),.int .i64 ((aK U eQ).f1)] (fun _=>True) (fun _=>False) rfl rfl ?aP (fun _ hk=>hk.elim) ?aF ?aO ?aB ?aS ?aL ?_;(case aP=>exact pH _ _ _ (⟨(aK U eQ).f0,(aK U eQ).f1⟩:ab));(case aB=>exact(mH HB.1));(case aF=>exact(fun _ _=>trivial));(case aO=>exact(mR du.1));(case aS=>exact(aQ (mH HB.1)));(case aL=>have:=acv.1;omega);intro azt w9 ho hb hg hat;rw[←adD.1]at ho;replace HB:=J (hb);have abS:=J (ho);clear du;clear ho hb hg hat));go_roundg k1
       case measure=>have:=bo.1;omega
       case rel=>exact⟨(aaL),(wrap64 (eQ+1)),mE,H',⟨by have:=bo.1;omega⟩,⟨mR abS.1⟩,⟨(mH HB.1)⟩⟩
      ·rw[if_neg c8]at H;exact absurd H (by simp)
    ·rw[if_neg c6]at H;exact absurd H (by simp)
   ·rw[if_neg c5]at H;have gx:=decide_eq_false c5;clear c5;obtain rfl:=Option.some.inj H;go_wp2;go_ret;exact⟨_,cP,mR du.1,(mH HB.1)⟩
end Go.Proofs.YtingkpnoiekliaaGreat.MZ
end
section
namespace Go.Proofs.YtingkpnoiekliaaGreat.MZ
open Go.RowKit Go.Proofs.YtingkpnoiekliaaGreatW.PrintWords Go.Proofs.YtingkpnoiekliaaGreatW.PrintLast Go.Proofs.YtingkpnoiekliaaGreatW.PrintMore Go.Proofs.YtingkpnoiekliaaGreat.MWords
attribute [local go_sem] max2_int min2_int max_two min_two max_three min_three max_four min_four
set_option linter.unusedVariables false
set_option linter.unusedSimpArgs false
def ic.U:Nat→List (ab)→ByteArray→Int→Option (Int)
 |0,_,_,_=>none
 |k+1,x0,x1,x5=>if x5<(x0.length:Int) then (if 0≤x5 then (if ((aK x0 x5).f0).toList=x1.toList then (some x5) else (ic.U k x0 x1 (wrap64 (x5+1)))) else (none)) else (some (-1))
def ic.f (k:Nat) (U:List (ab)) (a1:ByteArray):Option (Int):=ic.U k U a1 0
set_option maxHeartbeats 8000000 in
set_option maxRecDepth 100000 in
theorem ic.calls (k:Nat) (A0:Option Addr) (c0:Nat) (U:List (ab)) (a1:ByteArray) (r:Int) (w:World) (b9:Kd.C ak w A0 U.length U) (cg:U.length≤c0) (h:ic.f k U a1=some r) :
 Calls Tryz.prog 73 #[.slice A0 U.length c0,.string a1] w fun e w'=>e = .returned (.int .i64 r)∧aC w w':=by
 have cr:=J b9;have fy:=J cg;clear b9 cg;have H:(ic.U k U a1 0)=some r:=h;clear h;have H':=J H;clear H;go_enter Tryz.func73,Tryz.ntmps73;go_wp2;go_loopg [5] k (fun kq v5 w'=>∃(aY:Int),v5 = .int .i64 aY∧Aside0 (ic.U kq U a1 aY=some r)∧Aside0 (kq≤k)∧aC w w')
 case atStart=>exact⟨(0),mE,H',⟨Nat.le_refl _⟩,by repeat (first|exact aC.refl _|apply aC.step)⟩
 case round=>
  clear H'
  obtain⟨aY,rfl,HA,bo,⟨m1,rfl⟩⟩:=hrel;cases gk with
  |zero=>exact absurd HA.1 (by simp[ic.U])
  |succ k1=>
   have H:=HA.1;clear HA;simp only[ic.U]at H;by_cases c3:aY<(U.length:Int)
   ·rw[if_pos c3]at H;have jy:=decide_eq_true c3;clear c3;by_cases c4:0≤aY
    ·rw[if_pos c4]at H;have fa:=decide_eq_true c4;clear c4;by_cases c5:((aK U aY).f0).toList=a1.toList
     ·rw[if_pos c5]at H;have gx:(((aK U aY).f0).toList == a1.toList)=true:=beq_iff_eq.mpr c5;have uM:(((aK U aY).f0).toList != a1.toList)=false:=bne_eq_false_iff_eq.mpr c5;clear c5;obtain rfl:=Option.some.inj H;have zb:0≤(aY:Int):=mD;have zp:aY<(U.length:Int):=mD;obtain⟨aem,M5,akr,aks⟩:=jw cr.1 aY zb zp;cases M5
      replace zb:=eq_true zb;replace zp:=eq_true zp;go_wp2;go_ret;exact⟨mE,by repeat (first|exact aC.refl _|apply aC.step)⟩
     ·rw[if_neg c5]at H;have gx:(((aK U aY).f0).toList == a1.toList)=false:=beq_eq_false_iff_ne.mpr c5;have uM:(((aK U aY).f0).toList != a1.toList)=true:=bne_iff_ne.mpr c5;have H':=J H;clear H;have zb:0≤(aY:Int):=mD;have zp:aY<(U.length:Int):=mD;obtain⟨aem,M5,akr,aks⟩:=jw cr.1 aY zb zp;cases M5
      replace zb:=eq_true zb;replace zp:=eq_true zp;go_wp2;go_roundg k1
      case measure=>have:=bo.1;omega
      case rel=>exact⟨(wrap64 (aY+1)),mE,H',⟨by have:=bo.1;omega⟩,by repeat (first|exact aC.refl _|apply aC.step)⟩
    ·rw[if_neg c4]at H;exact absurd H (by simp)
   ·rw[if_neg c3]at H;have jy:=decide_eq_false c3;clear c3;obtain rfl:=Option.some.inj H;go_wp2;go_ret;exact⟨mE,by repeat (first|exact aC.refl _|apply aC.step)⟩
def gJ.j0:Nat→ByteArray→Bool→List (aj)→List (ab)→List (ab)→Int→Option (Int)
 |0,_,_,_,_,_,_=>none
 |k+1,x1,x5,aAa,anV,aAb,aAc=>if x5=true then (some 1) else ((ic.f k anV x1).bind fun BM=>(if BM<0 then (some 2) else (some 0)))
def gJ.f (k:Nat) (aa:List (aj)) (af:List (ab)) (ah:List (ab)) (ai:Int) (a1:ByteArray):Option (Int):=(pO.f k aa af ah ai).bind fun BL=>(if BL=true then ((fu.f k a1).bind fun vz=>(gJ.j0 k a1 (!vz) aa af ah ai)) else (gJ.j0 k a1 true aa af ah ai))
set_option maxHeartbeats 8000000 in
set_option maxRecDepth 100000 in
theorem gJ.calls (k:Nat) (av:Option Addr) (al:Nat) (aa:List (aj)) (ar:Option Addr) (an:Nat) (af:List (ab)) (ao:Option Addr) (aq:Nat) (ah:List (ab)) (ai:Int) (a1:ByteArray) (r:Int) (w:World) (cW:Kd.C bf w av aa.length aa) (cT:aa.length≤al) (cX:Kd.C ak w ar af.length af) (cU:af.length≤an) (cY:Kd.C ak w ao ah.length ah) (cV:ah.length≤aq) (h:gJ.f k aa af ah ai a1=some r) :
 Calls Tryz.prog 30 #[.agg #[.slice av aa.length al,.slice ar af.length an,.slice ao ah.length aq,.int .i64 ai],.string a1] w fun e w'=>e = .returned (.int .i64 r)∧Below w.heap.size w w':=by
 have ly:=Tryz.underlying27;have cG:=J cW;have df:=J cT;clear cW cT;have cC:=J cX;have cR:=J cU;clear cX cU;have cO:=J cY;have dg:=J cV;clear cY cV;have HB:=J (Below.refl w.heap.size w);have H:((pO.f k aa af ah ai).bind fun BL=>(if BL=true then ((fu.f k a1).bind fun vz=>(gJ.j0 k a1 (!vz) aa af ah ai)) else (gJ.j0 k a1 true aa af ah ai)))=some r:=h;clear h;have oC:=J H;clear H;go_enter Tryz.func30,Tryz.ntmps30;go_upto_region 1 with (first|((with_reducible refine aM (N:=2) rfl ?_);refine bg 2 #[.slice av aa.length al,.slice ar af.length an,.slice ao ah.length aq,.int .i64 ai] 27 ?_;intro UN hg w4 hbox hb;have iN:=J (hbox);have abm:=mG hg (mH HB.1);have jT:=mG hg (mH HB.1);replace HB:=J (aA (mH HB.1) hb);clear hb hbox hg))
 (try simp only[Act.put,zA,zB,zC])
 go_cut [5] (fun v5 wc=>∃(kq:Nat) (jF:Bool),v5 = .bool jF∧Aside0 (gJ.j0 kq a1 jF aa af ah ai=some r)∧Aside0 (kq≤k)∧Aside0 (wc.heap[UN]? = some (.cells #[(.slice av aa.length al),(.slice ar af.length an),(.slice ao ah.length aq),.int .i64 ai] 27 (0,0)))∧Aside0 (Below w.heap.size w wc))
 case first=>
  have H:=oC.1;clear oC;replace H:=Option.bind_eq_some_iff.mp H;obtain⟨BL,jv,H⟩:=H;replace H:(if BL=true then ((fu.f k a1).bind fun vz=>(gJ.j0 k a1 (!vz) aa af ah ai)) else (gJ.j0 k a1 true aa af ah ai))=some r:=H;have A5:=J jv;clear jv;by_cases c6:BL=true
  ·subst c6;have H1:=H;rw[if_pos rfl]at H1;clear H;have H:=H1;clear H1;replace H:=Option.bind_eq_some_iff.mp H;obtain⟨vz,Cd,H⟩:=H;replace H:(gJ.j0 k a1 (!vz) aa af ah ai)=some r:=H;have A7:=J Cd;clear Cd;have H':=J H;clear H;obtain⟨AV,AW,IC,ID,Bg,Bh,I3,I4⟩:=bP iN.1;go_wp2_with (first|((with_reducible refine aH (f:=71) rfl ?_);refine cd 7 Tryz.func71 #[.agg #[.slice av aa.length al,.slice ar af.length an,.slice ao ah.length aq,.int .i64 ai]] ?_;(with_reducible refine(pO.calls k _ _ aa _ _ af _ _ ah ai true _ ?aE ?aG ?bA ?bB ?bC ?bK A5.1).mono ?_);(case aE=>exact mC (Kd.az cG.1 HB.1));(case aG=>exact df.1);(case bA=>exact mC (Kd.az cC.1 HB.1));(case bB=>exact cR.1);(case bC=>exact mC (Kd.az cO.1 HB.1));(case bK=>exact dg.1);rintro e w9 ⟨rfl,hb⟩;refine⟨_,rfl,?_⟩;replace iN:=mB iN hb;replace HB:=J (aA (aZ HB.1 jT.1) hb);(try clear hb))|(go_at_call 72;(with_reducible refine(fu.calls k a1 vz _ A7.1).mono ?_);rintro e w' ⟨rfl,⟨nd,rfl⟩⟩));go_meet
   case rel=>exact⟨_,(!vz),mE,H',⟨by first|omega|exact Nat.le_refl _⟩,⟨mK iN.1⟩,⟨(aZ HB.1 jT.1)⟩⟩
  ·replace c6:=Bool.eq_false_iff.mpr c6;subst c6;have H1:=H;rw[if_neg (show ¬(false=true) by decide)]at H1;clear H;have H:=H1;clear H1;have H':=J H;clear H;obtain⟨AN,AO,Io,Ip,AX,AY,IP,IQ⟩:=bP iN.1;go_wp2_with (first|((with_reducible refine aH (f:=71) rfl ?_);refine cd 7 Tryz.func71 #[.agg #[.slice av aa.length al,.slice ar af.length an,.slice ao ah.length aq,.int .i64 ai]] ?_;(with_reducible refine(pO.calls k _ _ aa _ _ af _ _ ah ai false _ ?aE ?aG ?bA ?bB ?bC ?bK A5.1).mono ?_);(case aE=>exact mC (Kd.az cG.1 HB.1));(case aG=>exact df.1);(case bA=>exact mC (Kd.az cC.1 HB.1));(case bB=>exact cR.1);(case bC=>exact mC (Kd.az cO.1 HB.1));(case bK=>exact dg.1);rintro e eZ ⟨rfl,hb⟩;refine⟨_,rfl,?_⟩;replace iN:=mB iN hb;replace HB:=J (aA (aZ HB.1 jT.1) hb);(try clear hb)));go_meet
   case rel=>exact⟨_,(true),mE,H',⟨by first|omega|exact Nat.le_refl _⟩,⟨mK iN.1⟩,⟨(aZ HB.1 jT.1)⟩⟩
 case rest=>
  clear oC
  obtain⟨kq,jF,rfl,HA,rQ,iN,HB⟩:=hcut;cases kq with
  |zero=>exact absurd HA.1 (by simp[gJ.j0])
  |succ sK=>
   have H:=HA.1;clear HA;simp only[gJ.j0]at H;by_cases dX:jF=true
   ·subst dX;have H1:=H;rw[if_pos rfl]at H1;clear H;have H:=H1;clear H1;obtain rfl:=Option.some.inj H;go_wp2;go_ret;exact⟨cP,(aZ HB.1 jT.1)⟩
   ·replace dX:=Bool.eq_false_iff.mpr dX;subst dX;have H1:=H;rw[if_neg (show ¬(false=true) by decide)]at H1;clear H;have H:=H1;clear H1;replace H:=Option.bind_eq_some_iff.mp H;obtain⟨BM,Q7,H⟩:=H;replace H:(if BM<0 then (some 2) else (some 0))=some r:=H;have B9:=J Q7;clear Q7;by_cases gR:BM<0
    ·rw[if_pos gR]at H;have yt:=decide_eq_true gR;clear gR;obtain rfl:=Option.some.inj H;obtain⟨NL,ahD,ahE,ahF,NW,aiP,aiQ,aiR⟩:=bP iN.1;go_wp2_with (first|((with_reducible refine aH (f:=73) rfl ?_);refine cd 18 Tryz.func73 #[.slice ar af.length an,.string a1] ?_;(with_reducible refine(ic.calls sK _ _ af a1 BM _ ?aE ?aG B9.1).mono ?_);(case aE=>exact mC (Kd.az cC.1 HB.1));(case aG=>exact cR.1);rintro e w' ⟨rfl,⟨nd,rfl⟩⟩;refine⟨_,rfl,?_⟩));go_ret;exact⟨cP,(aZ HB.1 jT.1)⟩
    ·rw[if_neg gR]at H;have yt:=decide_eq_false gR;clear gR;obtain rfl:=Option.some.inj H;obtain⟨AR,AS,AT,AU,Bb,Bc,Be,Bf⟩:=bP iN.1;go_wp2_with (first|((with_reducible refine aH (f:=73) rfl ?_);refine cd 18 Tryz.func73 #[.slice ar af.length an,.string a1] ?_;(with_reducible refine(ic.calls sK _ _ af a1 BM _ ?aE ?aG B9.1).mono ?_);(case aE=>exact mC (Kd.az cC.1 HB.1));(case aG=>exact cR.1);rintro e w' ⟨rfl,⟨nd,rfl⟩⟩;refine⟨_,rfl,?_⟩));go_ret;exact⟨cP,(aZ HB.1 jT.1)⟩
end Go.Proofs.YtingkpnoiekliaaGreat.MZ
end
