/- The walk of the law FnExactMend. -/
import Derived.Test.YtingkpnoiekliaaGreatMWX
namespace Go.Proofs.YtingkpnoiekliaaGreat.MZ
open Go.RowKit Go.Proofs.YtingkpnoiekliaaGreatW.PrintWords Go.Proofs.YtingkpnoiekliaaGreatW.PrintLast Go.Proofs.YtingkpnoiekliaaGreatW.PrintMore Go.Proofs.YtingkpnoiekliaaGreat.MWords
set_option linter.unusedVariables false
set_option linter.unusedSimpArgs false
theorem amy {b:List Int} {L:List (List Int)} {n:Int} (hb:cK b) (hl:b.length≤1048576) (h:nt b=(L,n)):L.length≤1048576∧∀y ∈ L,y.length≤1048576:=by
 have hi:=ZE hb (b.length+1) 0 (by omega) (by omega);unfold nt at h;rw[h]at hi;dsimp only at hi;exact⟨by omega,fun y hy=>Nat.le_trans (hi.2.2.2 y hy).1 hl⟩
theorem al5 {d:Dk} {nm:ByteArray} {r:dy} {L:List (List Int)} (hB:Bd d.f0) (hf:Ds d) (hr:tp d nm=(r,L)):Ds (b8 r)∧L.length≤1048576∧∀y ∈ L,y.length≤1048576:=by
 have hnil:([]:List (List Int)).length≤1048576∧∀y ∈ ([]:List (List Int)),y.length≤1048576:=⟨by simp,by simp⟩
 rcases Q7 hB hr with ⟨_,_,rfl,rfl⟩|⟨_,_,rfl,rfl⟩|⟨⟨hk,_,_⟩,_,b,n,hb,jm,hbl,hnl,l,hrec,hcase⟩
 ·exact⟨hf,hnil⟩
 ·exact⟨hf,hnil⟩
 ·have hl:=amy jm hbl hrec
  rcases hcase with ⟨_,rfl,rfl⟩|⟨_,hsw,hc⟩
  ·exact⟨hf,hl⟩
  ·refine⟨Small.V0 (d:=b8 r) (Sh ⟨th.1 hk,hB⟩ (jm.take n) hsw).1.1.small.1,?_⟩
   rcases hc with ⟨_,rfl⟩|⟨_,rfl⟩
   ·exact hl
   ·exact hnil
structure Wf (x:Ld):Prop where
 m0:x.f0.length≤maxLen∧∀y ∈ x.f0,y.f1.length≤maxLen
 m1:x.f1.length≤maxLen∧∀y ∈ x.f1,y.f0.size≤maxLen
 m2:x.f2.length≤maxLen∧∀y ∈ x.f2,y.f0.size≤maxLen
 bb:∀y ∈ x.f0,cK y.f1
theorem Foot.dup {P:World→Prop} {w:World} {ok:Nat→Prop} (h:Foot P w ok):Foot (fun W=>Foot P W ok) w ok:=fun W hW=>h.step (fun k ho hl=>hW k ho hl)
section
variable {w0 w w1:World} {X S:Nat→Prop} {bs:List (Nat × Array Value)} {Q Q':World→Prop}
theorem St.Sv (h:St w0 X bs Q w) (hb:Below w0.heap.size w0 w1) (hk:Kept w w1 S) (hn:∀b ∈ bs,¬S b.1) (hq:Foot Q' w1 (fun k=>¬X k∧∀b ∈ bs,b.1≠k)):St w0 X bs Q' w1:=
 ((h.kept hb hk hn).and hq).imp (fun _ h=>h.2)
theorem zt {P:World→Prop} {ok:Nat→Prop} (h:Foot P w ok) (hk:Kept w w1 S) (hn:∀k,ok k→¬S k):Foot P w1 ok:=h.step (fun k ho hl=>hk.2 k hl (hn k ho))
end
section
variable {ops:Array Oper} {rest:List Oper} {o:Oper} {a:Act} {K:Exit→Act→World→Prop} {w:World} {g:Nat} {cs:Array Value}
theorem Tryz.ZX:(Tryz.prog.info? 44).map (·.size)=some 4:=by kernel_rfl
theorem vn (hq:w.heap[g]? = some (.cells cs 44 (0,0))) (h4:cs.size=4) {p:Tmp} (h:wpList Tryz.prog ops K rest (a.put o.dst (.agg cs)) w) (ho:o.op = .load 44 (.tmp p):=by rfl) (he:a.eval (.tmp p) = .pointer (some ⟨g,0,none⟩):=by rfl) (hg:o.guard=none:=by rfl):wpList Tryz.prog ops K (o::rest) a w:=
 wpList_load_row hg 44 (.tmp p) ho g he 44 cs (0,0) _ hq Tryz.underlying44 rfl (by rw[Tryz.ZX];exact congrArg some h4.symm) h
end
theorem agN {P:World→Prop} {w w1:World} (h:Foot P w1 (fun k=>w.heap.size≤k)):∃lo hi,w.heap.size≤lo∧hi≤w1.heap.size∧Foot P w1 (rg lo hi):=⟨_,_,Nat.le_refl _,Nat.le_refl _,h.bound⟩
structure Pk (w0:World) (g2:Nat) (cs c6:Array Value) (dr:Dk) (A6:Option Addr) (L:List (List Int)) (s0 s1 m0 l1 m1 e1:Nat) (eB:Array Value) (v:Value) (dg:Dk) (Lg:List (List Int)) (W:World):Prop where
 b:W.heap[g2]? = some (.cells cs 44 (0,0))
 s:Foot (fun W=>Kd.C (Kd.slice 5 (Kd.int .u8)) W A6 L.length L∧cO c6 dr W) W (rg s0 s1)
 g:Fs w0.heap.size (rg m1 e1) eB dg W
 l:Kd.S (Mz.kz 5) 22 W w0.heap.size (rg m0 l1) v Lg
section
variable {w0 w w1:World} {g2:Nat} {cs c6 eB:Array Value} {dr dg:Dk} {A6:Option Addr} {L Lg:List (List Int)} {s0 s1 m0 l1 m1 e1:Nat} {v:Value} {S:Nat→Prop}
theorem Pk.nc (h:Pk w0 g2 cs c6 dr A6 L s0 s1 m0 l1 m1 e1 eB v dg Lg w):Foot (Pk w0 g2 cs c6 dr A6 L s0 s1 m0 l1 m1 e1 eB v dg Lg) w (fun k=>k=g2∨rg s0 s1 k∨rg m1 e1 k∨rg m0 l1 k):=fun W hW=>
 ⟨(hW g2 (.inl rfl) (eF h.b)).trans h.b,Foot.dup h.s W (fun k hk=>hW k (.inr (.inl hk))),Fs.nc h.g W (fun k hk=>hW k (.inr (.inr (.inl hk)))),uu h.l W (fun k hk=>hW k (.inr (.inr (.inr hk))))⟩
theorem N3 (h:w.heap[g2]? = some (.cells cs 44 (0,0))) (hk:Kept w w1 S) (hn:¬S g2):w1.heap[g2]? = some (.cells cs 44 (0,0)):=(hk.2 g2 (eF h) hn).trans h
theorem Pk.k7 (h:Pk w0 g2 cs c6 dr A6 L s0 s1 m0 l1 m1 e1 eB v dg Lg w) (hk:Kept w w1 S) (n2:¬S g2) (ns:∀k,rg s0 s1 k→¬S k) (ng:∀k,rg m1 e1 k→¬S k) (nl:∀k,rg m0 l1 k→¬S k):Pk w0 g2 cs c6 dr A6 L s0 s1 m0 l1 m1 e1 eB v dg Lg w1:=
 ⟨N3 h.b hk n2,zt h.s hk ns,(zt (Fs.nc h.g) hk ng).now,(zt (uu h.l) hk nl).now⟩
end
theorem Vy {w0 w:World} {cs:Array Value} {d:Dk} {nm:ByteArray} {r:dy} {L:List (List Int)} (hB:Below w0.heap.size w0 w) (hr:tp d nm=(r,L)) (hd:cO cs d w) (hs:Small d.f0 d.f1 d.f2) (hl:∀x ∈ d.f0,x.f1.length≤1048576) (hbd:Bd d.f0) (hn:nm.size≤9223372036854775807) :
 Calls Tryz.prog 7 #[.agg cs,.string nm] w (fun e w'=>∃c1 A c m0 l1 m1 e1,e = .returned (.tuple #[.agg c1,.slice A L.length c,.int .i64 r.2.2.2.2])∧(w.heap.size≤m0∧w.heap.size≤m1∧l1≤m1∧l1≤w'.heap.size∧e1≤w'.heap.size)∧L.length≤c∧Fs w0.heap.size (rg m1 e1) c1 (b8 r) w'∧Kd.S (Mz.kz 5) 22 w' w0.heap.size (rg m0 l1) (.slice A L.length c) L∧Below w.heap.size w w'):=
 (afk hr hd hs hl hbd hn).mono (fun e w' ⟨c1,v,m,he,hm,hF,hL,hb⟩=>by
  obtain⟨A,c,rfl⟩:=Kd.jv hL;exact⟨c1,A,c,w.heap.size,min m w'.heap.size,m,w'.heap.size,he,⟨Nat.le_refl _,hm,Nat.min_le_left _ _,Nat.min_le_right _ _,Nat.le_refl _⟩,(Kd.iI hL).2.1,Fs.mono hF.tu hB.size (fun k hk=>hk),Kd.l6 (Kd.dj (Kd.kS hL) (fun k hk=>⟨hk.1.1,by have h1:=hk.1.2;have h2:=hk.2.2.1;omega⟩)) hB.size,hb⟩)
theorem sL4 {md:Region.Mode} {ops:Array Oper} {Q:Exit→Act→World→Prop} {S:World→Prop} {ds:List Nat} {oi:Oper} {fuel i m:Nat} {a a':Act} {w:World} {n p:Tmp} {gb:Nat} {cs:Array Value} (hS:S w) (hs:∀W,S W→W.heap[gb]? = some (.cells cs 44 (0,0))) (h4:cs.size=4) (h:ck Tryz.prog md ops Q S ds fuel (mb (i+1) m) a' w) (hi:ops[i]? = some oi:=by exact rfl) (hN:oi.dst=some n:=by exact rfl) (ho:oi.op = .load 44 (.tmp p):=by rfl) (he:a.eval (.tmp p) = .pointer (some ⟨gb,0,none⟩):=by rfl) (hk:tB md ops ds (mb i (m+1)) (mb (i+1) m) i=true:=by kernel_rfl) (hQ:∀c a w,Q (.panic c) (a.put oi.dst (.agg cs)) w→Q (.panic c) a w:=by exact fun _ _ _ h=>h)
 (hw:Region.wanted oi (yielded ops a.tmps)=true:=by rfl) (ha:a.put (some n) (.agg cs)=a':=by simp only[Act.put,zA,zB,zC,dJ,gx];rfl):ck Tryz.prog md ops Q S ds (fuel+1) (mb i (m+1)) a w:=
 vm _ hi hN hk hQ (Or.inl ⟨hw,fun W hW=>by
  unfold execOp;simp only[ho,he,Instr.loadAt,Instr.sureAddr,Sem.run_bind,Sem.run_pure,Result.andThen_ok,run_loadVar_row W gb 44 44 cs (0,0) _ (hs W hW) Tryz.underlying44 rfl (by rw[Tryz.ZX];exact congrArg some h4.symm)]⟩) hS ha h
theorem aaP {w:World} {A:Option Addr} {c n b:Nat} {L:List (List Int)} {a m:Int} {K:Nat} {ok:Nat→Prop} (h:Kd.S (Mz.kz 5) 22 w b ok (.slice A n c) L) (hm:mm.f K L a=some m):Calls Tryz.prog 21 #[.slice A n c,.int .i64 a] w (fun e w'=>e = .returned (.int .i64 m)∧Below w.heap.size w w'):=by
 have h2:=Kd.iI h;obtain rfl:n=L.length:=h2.1;exact aoy (Mz.IZ h2.2.2) h2.2.1 hm
set_option maxHeartbeats 8000000 in
set_option maxRecDepth 100000 in
theorem ahc {w : World} {cs : Array Value} {x : Ld} {nm : ByteArray} (h : Br cs x w) (hx : Wf x) (hn : nm.size ≤ 9223372036854775807) : Calls Tryz.prog 4 #[.agg cs, .string nm] w (fun e w' => e = .returned (.bool true) ∧ Below w.heap.size w w') := by
  have HS := St.start w (fun _ => False)
  have h4 : cs.size = 4 := by obtain ⟨_, _, _, _, _, _, rfl, _⟩ := h; rfl
  by_cases hl : (nm.size : Int) > 1048576
  · have hz := decide_eq_true hl
    go_enter Tryz.func4, Tryz.ntmps4
    go_wp2_with (first | ((with_reducible refine aH (N := 2) rfl ?_); refine aT 2 cs 44 ?_; intro g2 hg w1 hx hb; have XD := eF hx; replace HS := (HS.call hb (Q' := fun W => W.heap[g2]? = some (.cells cs 44 (0, 0))) (fun W hW => (hW g2 (Nat.le_of_eq hg.symm) (eF hx)).trans hx) (fun _ _ h => h)).imp (fun _ h => And.intro h.2 trivial); clear hb hx hg))
    go_ret
    exact ⟨rfl, HS.be⟩
  have hz := decide_eq_false hl
  have hz' := decide_eq_false (show ¬ 1048576 < nm.size by omega)
  obtain ⟨t, ht, K, hk⟩ := anx x hx.m0 hx.m1 hx.m2 1048576 (by omega) (by omega)
  replace hk := J (hk K (Nat.le_refl _))
  by_cases X8 : t < 0
  · have oD := decide_eq_true X8
    go_enter Tryz.func4, Tryz.ntmps4
    go_wp2_with (first | ((with_reducible refine aH (N := 2) rfl ?_); refine aT 2 cs 44 ?_; intro g2 hg w1 hx hb; have XD := eF hx; replace HS := (HS.call hb (Q' := fun W => W.heap[g2]? = some (.cells cs 44 (0, 0))) (fun W hW => (hW g2 (Nat.le_of_eq hg.symm) (eF hx)).trans hx) (fun _ _ h => h)).imp (fun _ h => And.intro h.2 trivial); clear hb hx hg) | ((with_reducible refine aH (N := 24) rfl ?_); refine bP Tryz.func14 (xSz (h.below HS.be) hk.1) ?_; rintro e w5 ⟨rfl, hb⟩; refine ⟨_, rfl, ?_⟩; have alb := hb.size; replace HS := HS.below hb; clear hb) | (first | refine vn HS.q.1 h4 ?_ | refine vn HS.q.b h4 ?_ | refine vn HS.q.1.b h4 ?_ | refine bu 0 HS ?_ | refine bu 1 HS ?_ | refine bu 2 HS ?_ | refine bu 3 HS ?_))
    go_ret
    exact ⟨rfl, HS.be⟩
  have oD := decide_eq_false X8
  obtain ⟨b0, bd, b1, b2⟩ := ht.2 (by omega)
  have hsm : Small (n8 x).f0 (n8 x).f1 (n8 x).f2 := by
    refine ⟨by simpa [n8] using b0, fun y hy => ?_, by simpa [n8] using b1, by simpa [n8] using b2, fun y hy => ?_, fun y hy => ?_⟩ <;> obtain ⟨z, hz, rfl⟩ := List.mem_map.1 hy
    · exact Nat.le_trans (bd z hz) (by decide)
    · exact hx.m1.2 z hz
    · exact hx.m2.2 z hz
  have Cl : ∀ y ∈ (n8 x).f0, y.f1.length ≤ 1048576 := fun y hy => by obtain ⟨z, hz, rfl⟩ := List.mem_map.1 hy; exact bd z hz
  have hbd : Bd (n8 x).f0 := fun y hy => by obtain ⟨z, hz, rfl⟩ := List.mem_map.1 hy; exact hx.bb z hz
  obtain ⟨⟨r, L⟩, hr⟩ : ∃ p, tp (n8 x) nm = p := ⟨_, rfl⟩
  have hfx : Ds (n8 x) := hsm.V0
  obtain ⟨hfr, ES, ET⟩ := al5 hbd hfx hr
  obtain ⟨q, a1, a2, a3, hq, ⟨K1, h1⟩, _⟩ := Y7 (n8 x).f0 (n8 x).f1 (n8 x).f2 (n8 x).f3 hfx.h0 hfx.hd hfx.h1 hfx.h2
  obtain ⟨m, d1, d2, d3, hm, ⟨K2, h2⟩, ⟨K3, h3⟩⟩ := Y7 (b8 r).f0 (b8 r).f1 (b8 r).f2 (b8 r).f3 hfr.h0 hfr.hd hfr.h1 hfr.h2
  obtain ⟨hm2, K4, h5⟩ := alX L m hm.1 hm.2 ES ET
  obtain ⟨K5, h6⟩ := aiN L m hm.1 hm.2 ES ET
  have hM1 := J (h1 K1 (Nat.le_refl _)); have hM2 := J (h2 K2 (Nat.le_refl _)); have Ws := J (h3 K3 (Nat.le_refl _)); have yS := J (h5 K4 (Nat.le_refl _)); have yR := J (h6 K5 (Nat.le_refl _))
  clear h1 h2 h3 h5 h6
  generalize lC L m L.length = m2 at hm2 yS yR
  generalize zy L m = Lm at yS yR
  have hq0 := decide_eq_false (show ¬ q < 0 by omega)
  have hm0 := decide_eq_false (show ¬ m < 0 by omega)
  have avw := decide_eq_false (show ¬ m2 < 0 by omega)
  obtain ⟨rc, hrc⟩ : ∃ z, r.2.2.2.2 = z := ⟨_, rfl⟩
  replace hr := J hr; replace hrc := J hrc
  go_enter Tryz.func4, Tryz.ntmps4
  go_upto_region 12 with (first | ((with_reducible refine aH (N := 2) rfl ?_); refine aT 2 cs 44 ?_; intro g2 hg w1 hx hb; have XD := eF hx; replace HS := (HS.call hb (Q' := fun W => W.heap[g2]? = some (.cells cs 44 (0, 0))) (fun W hW => (hW g2 (Nat.le_of_eq hg.symm) (eF hx)).trans hx) (fun _ _ h => h)).imp (fun _ h => And.intro h.2 trivial); clear hb hx hg) | ((with_reducible refine aH (N := 24) rfl ?_); refine bP Tryz.func14 (xSz (h.below HS.be) hk.1) ?_; rintro e w5 ⟨rfl, hb⟩; refine ⟨_, rfl, ?_⟩; have alb := hb.size; replace HS := HS.below hb; clear hb) | (first | refine vn HS.q.1 h4 ?_ | refine vn HS.q.b h4 ?_ | refine vn HS.q.1.b h4 ?_ | refine bu 0 HS ?_ | refine bu 1 HS ?_ | refine bu 2 HS ?_ | refine bu 3 HS ?_) | ((with_reducible refine aH (N := 29) rfl ?_); refine bP Tryz.func15 (L3 (h.below HS.be) HS.be b0 bd b1 b2) ?_; rintro e w5 ⟨c29, lo, hi, rfl, ake, hhi, hF, hb⟩; refine ⟨_, rfl, ?_⟩; have axL := hb.size; replace HS := (HS.call hb ((Fs.nc hF).mono (fun k hk => Nat.le_trans ake hk.1)) (fun _ _ h => h)).imp (fun _ h => And.intro h.1.1 h.2); clear hF hb) | ((with_reducible refine aH (N := 31) rfl ?_); refine bP Tryz.func8 (amM hr.1 HS.q.2.cm hsm Cl hbd hn) ?_; rintro e w5 ⟨c6, A6, k6, rfl, Fw, hF, hb⟩; rw [hrc.1]; refine ⟨_, rfl, ?_⟩; obtain ⟨s0, s1, eW, Cs, hF⟩ := agN hF; have axM := hb.size; replace HS := (HS.call hb ((Foot.dup hF).mono (fun k hk => Nat.le_trans eW hk.1)) (fun _ _ h => h)).imp (fun _ h => And.intro h.1.1 h.2); replace Fw := J Fw; clear hF hb) | ((with_reducible refine aH (N := 6) rfl ?_); refine aT 6 #[.slice none 0 0, .slice none 0 0, .slice none 0 0, .int .i64 0] 27 ?_; intro g6 hg w1 hx hb; have QA := Nat.le_of_eq hg.symm; replace HS := HS.box hg hx hb rfl; clear hb hx hg) | ((with_reducible refine ej rfl ?_); (first | refine dQ 0 HS HS.q.2.now.2 ?_ | refine dQ 0 HS HS.q.2.2.cm ?_ | refine dQ 0 HS HS.q.1.g.cm ?_ | refine dQ 0 HS HS.q.2.1.cm ?_); intro w1 HT; replace HS := HT; clear HT; simp only [List.set] at HS) | ((with_reducible refine aH (N := 36) rfl ?_); have j36 : g6 < _ := eF (HS.bx _ (.head _)).2.2; refine bP Tryz.func15 (L3 (h.below HS.be) HS.be b0 bd b1 b2) ?_; rintro e w5 ⟨c9, x0, x1, rfl, nS, zn, hF, hb⟩; refine ⟨_, rfl, ?_⟩; have axN := hb.size; replace HS := (HS.call hb ((Fs.nc hF).mono (fun k hk => Nat.le_trans nS hk.1)) (fun _ _ h => h)).imp (fun _ h => And.intro h.1.1 (And.intro h.1.2 h.2)); clear hF hb) | ((with_reducible refine aH (N := 9) rfl ?_); refine aT 9 #[.slice none 0 0, .slice none 0 0, .slice none 0 0, .int .i64 0] 27 ?_; intro g9 hg w1 hx hb; have hg9 := Nat.le_of_eq hg.symm; replace HS := HS.box hg hx hb rfl; clear hb hx hg) | ((with_reducible refine aH (N := 40) rfl ?_); have j40 : g9 < _ := eF (HS.bx _ (.head _)).2.2; refine bP Tryz.func7 (Vy HS.be hr.1 HS.q.2.2.cm hsm Cl hbd hn) ?_; rintro e w5 ⟨eB, oM, YS, m0, l1, m1, e1, rfl, hmm, Ks, hF, hL, hb⟩; rw [hrc.1]; refine ⟨_, rfl, ?_⟩; have axO := hb.size; replace HS := (HS.call hb (Q' := fun W => Fs w.heap.size (rg m1 e1) eB (b8 r) W ∧ Kd.S (Mz.kz 5) 22 W w.heap.size (rg m0 l1) (.slice oM L.length YS) L) (fun W hW => ⟨Fs.nc hF W (fun k hk => hW k (Nat.le_trans hmm.2.1 hk.1)), uu hL W (fun k hk => hW k (Nat.le_trans hmm.1 hk.1))⟩) (fun _ _ h => h)).imp (fun W h => And.intro (Pk.mk (w0 := w) (g2 := g2) (cs := cs) (c6 := c6) (dr := b8 r) (A6 := A6) (L := L) (s0 := s0) (s1 := s1) (m0 := m0) (l1 := l1) (m1 := m1) (e1 := e1) (eB := eB) (v := .slice oM L.length YS) (dg := b8 r) (Lg := L) h.1.1 h.1.2.1 h.2.1 h.2.2) h.1.2.2); obtain ⟨hma, hmb, hmc, hmd, hme⟩ := hmm; replace Ks := J Ks; clear hF hL hb) | ((with_reducible refine aH (N := 10) rfl ?_); refine aT 10 #[.slice none 0 0, .slice none 0 0, .slice none 0 0, .int .i64 0] 27 ?_; intro g10 hg w1 hx hb; have avp := Nat.le_of_eq hg.symm; replace HS := HS.box hg hx hb rfl; clear hb hx hg) | ((with_reducible refine aH (N := 46) rfl ?_); refine bP Tryz.func16 (L2 HS.q.1.g.cm HS.q.1.s.now.2 hfr) ?_; rintro e w5 ⟨rfl, hb⟩; refine ⟨_, rfl, ?_⟩; replace HS := HS.below hb; clear hb) | ((with_reducible refine aH (N := 51) rfl ?_); (try (refine jx (by rfl) ?_; dsimp only)); refine bP Tryz.func17 (SN (Mz.IZ (Kd.iI HS.q.1.l).2.2) Ks.1 HS.q.1.s.now.1 Fw.1 ES ET) ?_; rintro e w5 ⟨rfl, hb⟩; refine ⟨_, rfl, ?_⟩; replace HS := HS.below hb; clear hb))
  refine fk (n := 5) (S := fun W => W.heap[g9]? = some (.cells c9 27 (0, 0)) ∧ W.heap[g2]? = some (.cells cs 44 (0, 0))) (ds := []) (mb 0 5) (by kernel_rfl) rfl rfl ⟨(HS.bx _ (.tail _ (.head _))).2.2, HS.q.1.b⟩ (fun hh => ?_); replace HS := HS.drew
  refine sL hh (fun _ h => h.1) HS.q.2.size ?_
  refine sL4 hh (fun _ h => h.2) h4 ?_
  refine sC Tryz.func15 (L3 (h.below HS.be) HS.be b0 bd b1 b2) ?_; rintro e w5 ⟨c61, lo, hi, rfl, hlo, hhi, hF, hb⟩; replace HS := HS.call hb ((Fs.nc hF).mono (fun k hk => Nat.le_trans hlo hk.1)) (fun _ _ h => h); refine ⟨_, rfl, ⟨bg hh.1 hb, bg hh.2 hb⟩, fun hh => rN ?_⟩; clear hF hb
  refine sC Tryz.func16 (L2 HS.q.1.2.cm HS.q.2.cm hfx) ?_; rintro e w5 ⟨rfl, hb⟩; replace HS := (HS.below hb).imp (fun _ h => h.1); refine ⟨_, rfl, ⟨bg hh.1 hb, bg hh.2 hb⟩, fun hh => rN ?_⟩; clear hb
  refine sP ?_; refine fA (by decide +kernel) ?_; clear hh
  go_wp2_with (first | (first | refine vn HS.q.1 h4 ?_ | refine vn HS.q.b h4 ?_ | refine vn HS.q.1.b h4 ?_ | refine bu 0 HS ?_ | refine bu 1 HS ?_ | refine bu 2 HS ?_ | refine bu 3 HS ?_) | ((with_reducible refine JK rfl ?_); refine jx (by rfl) ?_; dsimp only; (first | refine bu 0 HS ?_ | refine bu 1 HS ?_ | refine bu 2 HS ?_)) | ((with_reducible refine aH (N := 66) rfl ?_); refine bP Tryz.func18 (aaQ HS.be HS.q.2 hM1.1) ?_; rintro e w5 ⟨rfl, _, hb, hk⟩; refine ⟨_, rfl, ?_⟩; replace HS := HS.Sv hb hk (fun b hm h => by simp only [List.mem_cons, List.not_mem_nil, or_false] at hm; have ha := h.1; have hc := h.2; rcases hm with rfl | rfl | rfl <;> simp only at ha hc <;> omega) ((Pk.k7 HS.q.1 hk (fun h => by have ha := h.1; have hc := h.2; omega) (fun k h1 h2 => by have ha := h1.1; have hb' := h1.2; have hc := h2.1; have hd := h2.2; omega) (fun k h1 h2 => by have ha := h1.1; have hb' := h1.2; have hc := h2.1; have hd := h2.2; omega) (fun k h1 h2 => by have ha := h1.1; have hb' := h1.2; have hc := h2.1; have hd := h2.2; omega)).nc.mono (fun k hk => ⟨fun h => h, fun b hm e => by simp only [List.mem_cons, List.not_mem_nil, or_false] at hm; rcases hk with hk | ⟨hk, hk'⟩ | ⟨hk, hk'⟩ | ⟨hk, hk'⟩ <;> rcases hm with rfl | rfl | rfl <;> simp only at e <;> omega⟩)); clear hb hk) | ((with_reducible refine aH (N := 72) rfl ?_); (try (refine jx (by rfl) ?_; dsimp only)); refine bP Tryz.func16 (L2 HS.q.g.cm HS.q.s.now.2 hfr) ?_; rintro e w5 ⟨rfl, hb⟩; refine ⟨_, rfl, ?_⟩; replace HS := HS.below hb; clear hb) | ((with_reducible refine aH (N := 78) rfl ?_); (try (refine jx (by rfl) ?_; dsimp only)); refine bP Tryz.func17 (SN (Mz.IZ (Kd.iI HS.q.l).2.2) Ks.1 HS.q.s.now.1 Fw.1 ES ET) ?_; rintro e w5 ⟨rfl, hb⟩; refine ⟨_, rfl, ?_⟩; replace HS := HS.below hb; clear hb) | ((with_reducible refine aH (N := 88) rfl ?_); refine bP Tryz.func18 (aaQ HS.be HS.q.g hM2.1) ?_; rintro e w5 ⟨rfl, hR, hb, hk⟩; refine ⟨_, rfl, ?_⟩; replace HS := HS.Sv hb hk (fun b hm h => by simp only [List.mem_cons, List.not_mem_nil, or_false] at hm; have ha := h.1; have hc := h.2; rcases hm with rfl | rfl | rfl <;> simp only at ha hc <;> omega) ((Pk.mk (N3 HS.q.b hk (fun h => by have ha := h.1; have hc := h.2; omega)) (zt HS.q.s hk (fun k h1 h2 => by have ha := h1.1; have hb' := h1.2; have hc := h2.1; have hd := h2.2; omega)) hR (zt (uu HS.q.l) hk (fun k h1 h2 => by have ha := h1.1; have hb' := h1.2; have hc := h2.1; have hd := h2.2; omega)).now).nc.mono (fun k hk => ⟨fun h => h, fun b hm e => by simp only [List.mem_cons, List.not_mem_nil, or_false] at hm; rcases hk with hk | ⟨hk, hk'⟩ | ⟨hk, hk'⟩ | ⟨hk, hk'⟩ <;> rcases hm with rfl | rfl | rfl <;> simp only at e <;> omega⟩)); clear hb hk hR) | ((with_reducible refine aH (N := 91) rfl ?_); refine bP Tryz.func19 (aoz HS.be HS.q.l yS.1) ?_; rintro e w5 ⟨rfl, hR, hb, hk⟩; refine ⟨_, rfl, ?_⟩; replace HS := HS.Sv hb hk (fun b hm h => by simp only [List.mem_cons, List.not_mem_nil, or_false] at hm; have ha := h.1; have hc := h.2; rcases hm with rfl | rfl | rfl <;> simp only at ha hc <;> omega) ((Pk.mk (N3 HS.q.b hk (fun h => by have ha := h.1; have hc := h.2; omega)) (zt HS.q.s hk (fun k h1 h2 => by have ha := h1.1; have hb' := h1.2; have hc := h2.1; have hd := h2.2; omega)) (zt (Fs.nc HS.q.g) hk (fun k h1 h2 => by have ha := h1.1; have hb' := h1.2; have hc := h2.1; have hd := h2.2; omega)).now hR).nc.mono (fun k hk => ⟨fun h => h, fun b hm e => by simp only [List.mem_cons, List.not_mem_nil, or_false] at hm; rcases hk with hk | ⟨hk, hk'⟩ | ⟨hk, hk'⟩ | ⟨hk, hk'⟩ <;> rcases hm with rfl | rfl | rfl <;> simp only at e <;> omega⟩)); clear hb hk hR) | ((with_reducible refine aH (N := 94) rfl ?_); refine bP Tryz.func20 (aaO (d := ⟨d1, d2, d3, (b8 r).f3⟩) HS.q.g.cm Ws.1) ?_; rintro e w5 ⟨rfl, hb⟩; refine ⟨_, rfl, ?_⟩; replace HS := HS.below hb; clear hb) | ((with_reducible refine aH (N := 99) rfl ?_); refine bP Tryz.func21 (aaP HS.q.l yR.1) ?_; rintro e w5 ⟨rfl, hb⟩; refine ⟨_, rfl, ?_⟩; replace HS := HS.below hb; clear hb) | ((with_reducible refine aH (N := 107) rfl ?_); refine bP Tryz.func15 (L3 (h.below HS.be) HS.be b0 bd b1 b2) ?_; rintro e w5 ⟨c7, y0, y1, rfl, jV, hy1, hF, hb⟩; refine ⟨_, rfl, ?_⟩; replace HS := HS.call hb ((Fs.nc hF).mono (fun k hk => Nat.le_trans jV hk.1)) (fun _ _ h => h); clear hF hb) | ((with_reducible refine aH (N := 109) rfl ?_); refine bP Tryz.func7 (Vy HS.be hr.1 HS.q.2.cm hsm Cl hbd hn) ?_; rintro e w5 ⟨gY, A16, k16, n0, n1, n2, n3, rfl, hmm, QB, hF, hL, hb⟩; rw [hrc.1]; refine ⟨_, rfl, ?_⟩; replace HS := (HS.call hb (Q' := fun W => Fs w.heap.size (rg n2 n3) gY (b8 r) W ∧ Kd.S (Mz.kz 5) 22 W w.heap.size (rg n0 n1) (.slice A16 L.length k16) L) (fun W hW => ⟨Fs.nc hF W (fun k hk => hW k (Nat.le_trans hmm.2.1 hk.1)), uu hL W (fun k hk => hW k (Nat.le_trans hmm.1 hk.1))⟩) (fun _ _ h => h)).imp (fun W h => And.intro h.1.1 h.2); clear hmm; replace QB := J QB; clear hF hL hb) | ((with_reducible refine aH (N := 16) rfl ?_); refine aT 16 #[.slice none 0 0, .slice none 0 0, .slice none 0 0, .int .i64 0] 27 ?_; intro g16 hg w1 hx hb; have avq := Nat.le_of_eq hg.symm; replace HS := HS.box hg hx hb rfl; clear hb hx hg) | ((with_reducible refine ej rfl ?_); (first | refine dQ 0 HS HS.q.2.now.2 ?_ | refine dQ 0 HS HS.q.2.2.cm ?_ | refine dQ 0 HS HS.q.1.g.cm ?_ | refine dQ 0 HS HS.q.2.1.cm ?_); intro w1 HT; replace HS := HT; clear HT; simp only [List.set] at HS) | ((with_reducible refine aH (N := 115) rfl ?_); refine bP Tryz.func16 (L2 HS.q.2.1.cm HS.q.1.s.now.2 hfr) ?_; rintro e w5 ⟨rfl, hb⟩; refine ⟨_, rfl, ?_⟩; replace HS := HS.below hb; clear hb) | ((with_reducible refine aH (N := 120) rfl ?_); (try (refine jx (by rfl) ?_; dsimp only)); refine bP Tryz.func17 (SN (Mz.IZ (Kd.iI HS.q.2.2).2.2) QB.1 HS.q.1.s.now.1 Fw.1 ES ET) ?_; rintro e w5 ⟨rfl, hb⟩; refine ⟨_, rfl, ?_⟩; replace HS := HS.below hb; clear hb) | ((with_reducible refine aH (N := 130) rfl ?_); refine bP Tryz.func20 (aaO (d := ⟨d1, d2, d3, (b8 r).f3⟩) HS.q.1.g.cm Ws.1) ?_; rintro e w5 ⟨rfl, hb⟩; refine ⟨_, rfl, ?_⟩; replace HS := HS.below hb; clear hb) | ((with_reducible refine aH (N := 135) rfl ?_); refine bP Tryz.func21 (aaP HS.q.1.l yR.1) ?_; rintro e w5 ⟨rfl, hb⟩; refine ⟨_, rfl, ?_⟩; replace HS := HS.below hb; clear hb))
  go_ret
  exact ⟨rfl, HS.be⟩
end Go.Proofs.YtingkpnoiekliaaGreat.MZ
