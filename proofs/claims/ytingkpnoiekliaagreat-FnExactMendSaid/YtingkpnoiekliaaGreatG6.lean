/- Walks and plain laws, put together: no condition of their own. -/
import Derived.Test.YtingkpnoiekliaaGreatVAll
import Derived.Test.YtingkpnoiekliaaGreatG1
import Derived.Test.YtingkpnoiekliaaGreatG3
section
namespace Go.Proofs.YtingkpnoiekliaaGreat.MZ
open Go.RowKit Go.Proofs.YtingkpnoiekliaaGreatW.PrintWords Go.Proofs.YtingkpnoiekliaaGreatW.PrintLast Go.Proofs.YtingkpnoiekliaaGreatW.PrintMore Go.Proofs.YtingkpnoiekliaaGreat.MWords
attribute [local go_sem] max2_int min2_int max_two min_two max_three min_three max_four min_four
set_option linter.unusedVariables false
set_option linter.unusedSimpArgs false
def ir.U:Nat→ByteArray→List (aa)→List (aa)→Int→Int→Option ((List (aa)))
 |0,_,_,_,_,_=>none
 |k+1,x1,x4,fl,SI,xz=>if xz<SI then (if 0≤xz then (if xz<(fl.length:Int) then (if ((aG fl xz).f0).toList=x1.toList then (ir.U k x1 x4 fl SI (wrap64 (xz+1))) else (if x4.length<5864062014805 then (ir.U k x1 (x4++[(⟨(aG fl xz).f0,(aG fl xz).f1⟩:aa)]) fl SI (wrap64 (xz+1))) else (none))) else (none)) else (none)) else (some x4)
def ir.f (k:Nat) (U:List (aa)) (a1:ByteArray):Option ((List (aa))):=ir.U k a1 ([]:List (aa)) U (U.length:Int) 0
set_option maxHeartbeats 8000000 in
set_option maxRecDepth 100000 in
theorem ir.calls (k:Nat) (gb:Nat) (u0 u2 u3:Value) (A0:Option Addr) (c0:Nat) (U:List (aa)) (a1:ByteArray) (r:List (aa)) (w:World) (hbk:w.heap[gb]? = some (.cells #[u0,.slice A0 U.length c0,u2,u3] 27 (0,0))) (bJ:Kd.C an w A0 U.length U) (bz:U.length≤c0) (h:ir.f k U a1=some r) :
 Calls Tryz.prog 104 #[.pointer (some ⟨gb,0,none⟩),.string a1] w fun e w'=>∃(cf:Value) (w1:World),e = .returned (.tuple #[])∧w'=w1.setCell ⟨gb,1,none⟩ cf∧Kd.R an 89 w1 w.heap.size (fun _=>True) cf r∧Below w.heap.size w w1:=by
 have HBK:=J hbk;clear hbk;have wQ:=Tryz.underlying89;have bB:=J bJ;have eb:=J bz;clear bJ bz;have HB:=J (Below.refl w.heap.size w);have H:(ir.U k a1 ([]:List (aa)) U (U.length:Int) 0)=some r:=h;clear h;have H':=J H;clear H;have aiJ:w.cell? ⟨gb,1,none⟩=some (.slice A0 U.length c0):=(bL HBK.1 1).trans rfl;have akc:=eA HBK.1 1;go_enter Tryz.func104,Tryz.ntmps104;go_wp2;go_loopg [4,12] k (fun kq v4 v12 w'=>∃(aN:List (aa)) (gF:Int),v12 = .int .i64 gF∧Aside0 (ir.U kq a1 aN U (U.length:Int) gF=some r)∧Aside0 (kq≤k)∧Aside0 (Kd.R an 89 w' w.heap.size (fun _=>True) v4 aN)∧Aside0 (Below w.heap.size w w'))
 case atStart=>exact⟨(([]:List (aa))),(0),mE,H',⟨Nat.le_refl _⟩,⟨by first|exact Kd.nH _ _ _ _ _|exact Kd.N_nil _ _ _ _ _|exact Kd.V_nil _ _ _ _ _|exact Kd.Q_nil _ _ _ _ _|exact Kd.rG _ _ _ _ _⟩,⟨(mH HB.1)⟩⟩
 case round=>
  clear H'
  try clear aiJ
  try clear akc
  obtain⟨aN,gF,rfl,HA,aQ,gW,HB⟩:=hrel;cases gk with
  |zero=>exact absurd HA.1 (by simp[ir.U])
  |succ k1=>
   have H:=HA.1;clear HA;simp only[ir.U]at H;by_cases c3:gF<(U.length:Int)
   ·rw[if_pos c3]at H;have cS:=decide_eq_true c3;clear c3;by_cases c4:0≤gF
    ·rw[if_pos c4]at H;have cV:=decide_eq_true c4;clear c4;by_cases c5:gF<(U.length:Int)
     ·rw[if_pos c5]at H;have eS:=decide_eq_true c5;clear c5;by_cases c6:((aG U gF).f0).toList=a1.toList
      ·rw[if_pos c6]at H;have eh:(((aG U gF).f0).toList == a1.toList)=true:=beq_iff_eq.mpr c6;have o8:(((aG U gF).f0).toList != a1.toList)=false:=bne_eq_false_iff_eq.mpr c6;clear c6;have H':=J H;clear H;have zO:0≤(gF:Int):=mD;have Ao:gF<(U.length:Int):=mD;obtain⟨aeB,OO,Gm,Gn⟩:=gi bB.1 gF zO Ao;cases OO
       replace Gm:=mX HB.1 Gm;replace Gn:=mX HB.1 Gn;replace zO:=eq_true zO;replace Ao:=eq_true Ao;go_wp2_with (first|((with_reducible refine aH (N:=6) rfl ?_);refine aT 6 #[.string (⟨#[]⟩:ByteArray),.int .i64 0] 89 ?_;intro vZ hg w7 hbox hb;replace gW:=J (Kd.bD (Kd.IW (mR gW.1) vZ (Nat.le_of_eq hg.symm)) hb);have Bj:=J (hbox);have abE:=mG hg (mH HB.1);have Du:=mG hg (mH HB.1);replace HB:=J (ar (mH HB.1) hb);clear hb hbox hg;obtain⟨B9,Ca,Cg,Ch⟩:=jX Bj.1));go_roundg k1
       case measure=>have:=aQ.1;omega
       case rel=>exact⟨(aN),(wrap64 (gF+1)),mE,H',⟨by have:=aQ.1;omega⟩,⟨by refine mR ?_;exact Kd.aK (Y3 (Kd.aK gW.1 (fun k_ hk=>(⟨hk,hk.2⟩:_∧k_≠vZ)))) (fun _ hk=>trivial)⟩,⟨(aI HB.1 Du.1)⟩⟩
      ·rw[if_neg c6]at H;have eh:(((aG U gF).f0).toList == a1.toList)=false:=beq_eq_false_iff_ne.mpr c6;have o8:(((aG U gF).f0).toList != a1.toList)=true:=bne_iff_ne.mpr c6;by_cases c9:aN.length<5864062014805
       ·rw[if_pos c9]at H;have acA:=J c9;clear c9;obtain⟨aaY,G7⟩:∃y_:List (aa),y_=(aN++[(⟨(aG U gF).f0,(aG U gF).f1⟩:aa)]):=⟨_,rfl⟩;replace H:(ir.U k1 a1 aaY U (U.length:Int) (wrap64 (gF+1)))=some r:=by first|(rw[G7];with_reducible exact H)|(have aM:=(Option.bind_some _ _).symm.trans H;rw[G7];with_reducible exact aM)|(have aM:=(Option.bind_some _ _).symm.trans H;with_reducible exact aM)|with_reducible exact H|(rw[G7];exact H)|exact H
        have adQ:=J G7;clear G7;have H':=J H;clear H;have zO:0≤(gF:Int):=mD;have Ao:gF<(U.length:Int):=mD;obtain⟨aeB,OO,Gm,Gn⟩:=gi bB.1 gF zO Ao;cases OO
        replace Gm:=mX HB.1 Gm;replace Gn:=mX HB.1 Gn;replace zO:=eq_true zO;replace Ao:=eq_true Ao;go_wp2_with (first|((with_reducible refine aH (N:=6) rfl ?_);refine aT 6 #[.string (⟨#[]⟩:ByteArray),.int .i64 0] 89 ?_;intro vZ hg eP hbox hb;replace gW:=J (Kd.bD (Kd.IW (mR gW.1) vZ (Nat.le_of_eq hg.symm)) hb);have Bj:=J (hbox);have abE:=mG hg (mH HB.1);have Du:=mG hg (mH HB.1);replace HB:=J (ar (mH HB.1) hb);clear hb hbox hg;obtain⟨yU,JU,za,Ka⟩:=jX Bj.1)|((with_reducible refine kv (b:=.append) (xs:=#[.tmp 20,.tmp 22]) rfl ?_);at_builtin;refine Kd.oW an (w0:=w) w.heap.size rfl (.tmp 20) (.tmp 22) 25 89 (.agg #[(.string ⟨#[]⟩),(.int .i64 0)]) 24 rfl Tryz.underlying25 iV rfl (by decide) (by omega) u4 aN (⟨(aG U gF).f0,(aG U gF).f1⟩:aa) [.string ((aG U gF).f0),.int .i64 ((aG U gF).f1)] (fun k_=>k_≠vZ) (fun _=>False) rfl (by first|(go_simp;done)|(go_simp;rfl)) ?aP (fun _ hk=>hk.elim) ?aF ?aO ?aB ?aS ?aL ?_;(case aP=>exact nn _ _ _ (⟨(aG U gF).f0,(aG U gF).f1⟩:aa));(case aB=>exact(aI HB.1 Du.1));(case aF=>exact(fun k_ hk=>Kd.gD (g:=vZ) (o:=.cells #[.string ((aG U gF).f0),.int .i64 ((aG U gF).f1)] 89 (0,0)) (by refine mK ?_;refine bf (cs:=#[.string ((aG U gF).f0),.int .i64 0]) ?_ 1 _ rfl;refine mK ?_;refine bf (cs:=#[.string (⟨#[]⟩:ByteArray),.int .i64 0]) ?_ 0 _ rfl;refine mK ?_;exact Bj.1) k_ hk));(case aO=>exact(by refine mR ?_;exact Kd.aK (Y3 (Kd.aK gW.1 (fun k_ hk=>(⟨hk,hk.2⟩:_∧k_≠vZ)))) (fun _ hk=>hk.1.2)));(case aS=>exact(bl (aI HB.1 Du.1)));(case aL=>have:=acA.1;omega);intro ayJ dK ho hb hg hat;rw[←adQ.1]at ho;replace Bj:=J (cM (g:=vZ) (o:=.cells #[.string ((aG U gF).f0),.int .i64 ((aG U gF).f1)] 89 (0,0)) (by refine mK ?_;refine bf (cs:=#[.string ((aG U gF).f0),.int .i64 0]) ?_ 1 _ rfl;refine mK ?_;refine bf (cs:=#[.string (⟨#[]⟩:ByteArray),.int .i64 0]) ?_ 0 _ rfl;refine mK ?_;exact Bj.1) hg (Kd.qB gW.1 (fun _ hk=>hk.2)));replace HB:=J (hb);have ab5:=J (ho);clear gW;clear ho hb hg hat));go_roundg k1
        case measure=>have:=aQ.1;omega
        case rel=>exact⟨(aaY),(wrap64 (gF+1)),mE,H',⟨by have:=aQ.1;omega⟩,⟨by refine mR ?_;exact Kd.aK ab5.1 (fun _ hk=>trivial)⟩,⟨(aI HB.1 Du.1)⟩⟩
       ·rw[if_neg c9]at H;exact absurd H (by simp)
     ·rw[if_neg c5]at H;exact absurd H (by simp)
    ·rw[if_neg c4]at H;exact absurd H (by simp)
   ·rw[if_neg c3]at H;have cS:=decide_eq_false c3;clear c3;obtain rfl:=Option.some.inj H;have BKe:=J ((HB.1.block gb (eF HBK.1)).trans HBK.1);have asJ:wr.cell? ⟨gb,1,none⟩=some (.slice A0 U.length c0):=(bL BKe.1 1).trans rfl;have avo:=eA BKe.1 1;obtain⟨Aoe,coe,eoe⟩:=Kd.b7 gW.1;subst eoe;go_wp2
    first|go_end0|((try simp only[Exit.inBlock,Exit.then]);refine bodyPost_ret (results_none rfl _ _ _) rfl ?_)
    first|exact⟨_,_,rfl,rfl,mR gW.1,(mH HB.1)⟩|exact⟨rfl,_,_,rfl,mR gW.1,(mH HB.1)⟩
end Go.Proofs.YtingkpnoiekliaaGreat.MZ
end
section
namespace Go.Proofs.YtingkpnoiekliaaGreat.MZ
open Go.RowKit Go.Proofs.YtingkpnoiekliaaGreatW.PrintWords Go.Proofs.YtingkpnoiekliaaGreatW.PrintLast Go.Proofs.YtingkpnoiekliaaGreatW.PrintMore Go.Proofs.YtingkpnoiekliaaGreat.MWords
set_option linter.unusedVariables false
set_option linter.unusedSimpArgs false
theorem afN {α:Type} (d:Kd α) {W:World} {b g:Nat} {e:TypeId} (hg:W.heap[g]? = some (.cells #[] e (0,0))) (hbg:b≤g):d.R e W b (fun j=>j=g) (.slice (some ⟨g,0,none⟩) 0 0) []:=
 ⟨fun j hj=>by simpa[Value.ownBlock] using hj.symm,[],⟨by simp,.inr ⟨g,0,#[],rfl,hbg,hg,Nat.le_refl _,by simp[maxLen],by simp,by simp⟩⟩,bw.none _ _⟩
theorem St.aha {w0 w w1:World} {X:Nat→Prop} {bs:List (Nat × Array Value)} {Q Q':World→Prop} {o:Option Nat} (h:St w0 X bs Q w) (hb:Below w0.heap.size w0 w1) (hg:w.grownBy w1 o) (ho:∀k,o=some k→∀b ∈ bs,b.1≠k) (hq:Foot Q' w1 (fun k=>¬X k∧∀b ∈ bs,b.1≠k)):St w0 X bs Q' w1:=
 ((h.kept hb (S:=fun k=>o=some k) ⟨hg.size,fun k hk hn=>hg.block k hk (fun e=>hn e.symm)⟩ (fun b hm e=>ho _ e b hm rfl)).and hq).imp (fun _ h=>h.2)
def lG (ds:List al) (ns ss:List aa) (i:Nat):List al:=((List.range i).filter (fun (i:Nat)=>named ns (ai ds (i:Int)).f0 || named ss (ai ds (i:Int)).f0)).map (fun (i:Nat)=>ai ds (i:Int))
theorem alJ {ds:List al} {ns ss:List aa} {i:Nat} (h:(named ns (ai ds (i:Int)).f0 || named ss (ai ds (i:Int)).f0)=true):lG ds ns ss (i+1)=lG ds ns ss i++[ai ds (i:Int)]:=by
 unfold lG;rw[List.range_succ,List.filter_append,List.map_append];simp[h]
theorem alI {ds:List al} {ns ss:List aa} {i:Nat} (h:(named ns (ai ds (i:Int)).f0 || named ss (ai ds (i:Int)).f0)=false):lG ds ns ss (i+1)=lG ds ns ss i:=by
 unfold lG;rw[List.range_succ,List.filter_append,List.map_append];simp[h]
theorem alH (ds:List al) (ns ss:List aa) (i:Nat):(lG ds ns ss i).length≤i:=by
 unfold lG;rw[List.length_map];exact Nat.le_trans (List.length_filter_le _ _) (by simp)
theorem Pp {α:Type} {d:Kd α} {e:Nat} {w:World} {base:Nat} {ok:Nat→Prop} {v:Value} {xs:List α} (h:Kd.N d e w base ok v xs):Foot (fun W=>Kd.N d e W base ok v xs) w ok:=fun W hW=>Kd.Bu h hW
set_option maxHeartbeats 8000000 in
set_option maxRecDepth 100000 in
theorem amL {w : World} {P : Nat → Prop} {A0 A1 A2 : Option Addr} {c0 c1 c2 : Nat} {d : Dk} (hF : Kd.F bc w P A0 d.f0.length d.f0) (U : d.f0.length ≤ c0) (r1 : Kd.C an w A1 d.f1.length d.f1) (l1 : d.f1.length ≤ c1) (r2 : Kd.C an w A2 d.f2.length d.f2) (l2 : d.f2.length ≤ c2) (h0 : d.f0.length ≤ 1048576) (h1 : d.f1.length ≤ 1048576) (h2 : d.f2.length ≤ 1048576) :
    Calls Tryz.prog 99 #[.agg #[.slice A0 d.f0.length c0, .slice A1 d.f1.length c1, .slice A2 d.f2.length c2, .int .i64 d.f3]] w (fun e w' => ∃ v, e = .returned (.agg #[v, .slice A1 d.f1.length c1, .slice A2 d.f2.length c2, .int .i64 d.f3]) ∧ Kd.N bc 63 w' w.heap.size (fun k => (P k ∧ k < w.heap.size) ∨ w.heap.size ≤ k) v (lG d.f0 d.f1 d.f2 d.f0.length) ∧ Below w.heap.size w w') := by
  have HS := St.start w (fun _ => False)
  have hu := Tryz.underlying63
  have hX : ∀ k, w.heap.size ≤ k → ¬ False := fun _ _ h => h
  go_enter Tryz.func99, Tryz.ntmps99
  go_wp2_with (first | ((with_reducible refine aH (N := 1) rfl ?_); refine aT 1 #[.slice A0 d.f0.length c0, .slice A1 d.f1.length c1, .slice A2 d.f2.length c2, .int .i64 d.f3] 27 ?_; intro g1 hg w1 hx hb; have sj := Nat.le_trans HS.be.size (Nat.le_of_eq hg.symm); have Cl := eF hx; replace HS := HS.box hg hx hb rfl; clear hb hx hg) | ((with_reducible refine aH (N := 2) rfl ?_); refine aT 2 #[.slice none 0 0, .slice none 0 0, .slice none 0 0, .int .i64 0] 27 ?_; intro g2 hg w1 hx hb; have tj := Nat.le_trans HS.be.size (Nat.le_of_eq hg.symm); have Kt := eF hx; have hbs := hb.size; replace HS := HS.box hg hx hb rfl; clear hb hx hg) | ((with_reducible refine aH (N := 5) rfl ?_); refine uE (N := 5) 63 HS (fun _ _ h => h) ?_; intro g5 w1 hg hgl hb HT; have Fj := Nat.le_trans HS.be.size (Nat.le_of_eq hg.symm); have QA := Nat.le_of_eq hg.symm; have ap4 := hb.size; replace HS := HT; clear HT hb hg))
  obtain ⟨ok, hok⟩ : ∃ ok : Nat → Prop, ok = (fun k => (P k ∧ k < w.heap.size) ∨ (w.heap.size ≤ k ∧ k ≠ g1 ∧ k ≠ g2)) := ⟨_, rfl⟩
  have hbox : ∀ (VP VQ : Array Value), ∀ k, ok k → ¬ (fun _ => False) k ∧ ∀ b ∈ [(g2, VQ), (g1, VP)], b.1 ≠ k := fun VP VQ k hk => ⟨fun h => h, fun b hm => by
    subst hok
    simp only [List.mem_cons, List.not_mem_nil, or_false] at hm
    rcases hm with rfl | rfl <;> (simp only; omega)⟩
  replace HS := (HS.and (Q' := fun W => Kd.N bc 63 W w.heap.size ok (.slice (some ⟨g5, 0, none⟩) 0 0) (lG d.f0 d.f1 d.f2 0)) ((Pp (Kd.UR (Kd.aK (afN bc HS.q.2 Fj) (fun j hj => by subst hok; omega)))).mono (hbox _ _))).imp (fun _ h => h.2)
  go_loopg [3, 4] d.f0.length (fun kq v3 v4 w' => ∃ (i : Nat), v4 = .int .i64 (i : Int) ∧ Aside0 (kq + i = d.f0.length) ∧ St w (fun _ => False) [(g2, #[.slice none 0 0, .slice none 0 0, .slice none 0 0, .int .i64 0]), (g1, #[.slice A0 d.f0.length c0, .slice A1 d.f1.length c1, .slice A2 d.f2.length c2, .int .i64 d.f3])] (fun W => Kd.N bc 63 W w.heap.size ok v3 (lG d.f0 d.f1 d.f2 i)) w')
  case atStart => exact ⟨0, rfl, ⟨rfl⟩, HS⟩
  case round =>
    clear HS
    obtain ⟨i, rfl, hi, HS⟩ := hrel
    cases gk with
    | zero =>
      have jn : decide ((i : Int) < (d.f0.length : Int)) = false := decide_eq_false (by have := hi.1; omega)
      have q3 : ¬ i < d.f0.length := by have := hi.1; omega
      have q4 := decide_eq_false q3
      obtain rfl : i = d.f0.length := by have := hi.1; omega
      have hq := HS.q
      obtain ⟨A3, c3, rfl⟩ := Kd.yp hq
      have hrd := Kd.pT hq
      clear q3 q4
      go_wp2_with (first | (refine kI 1 0 HS ?_) | (refine bu 1 HS ?_) | ((with_reducible refine ej rfl ?_); refine AS 1 0 (u := .slice A3 (lG d.f0 d.f1 d.f2 d.f0.length).length c3) HS ?_; intro w1 HT; replace HS := HT; clear HT; simp only [List.set, zA, zB, zC] at HS) | ((with_reducible refine ej rfl ?_); refine dQ 0 HS (cs' := #[.slice A3 (lG d.f0 d.f1 d.f2 d.f0.length).length c3, .slice A1 d.f1.length c1, .slice A2 d.f2.length c2, .int .i64 d.f3]) (d := ⟨lG d.f0 d.f1 d.f2 d.f0.length, d.f1, d.f2, d.f3⟩) (uL _ ⟨lG d.f0 d.f1 d.f2 d.f0.length, d.f1, d.f2, d.f3⟩ hrd.2.1 (Kd.pT HS.q).2.2 l1 (Kd.aw r1 HS.be) l2 (Kd.aw r2 HS.be)) ?_; intro w1 HT; replace HS := HT; clear HT; simp only [List.set] at HS))
      exact bodyPost_ret (results_cell_row rfl _ _ g2 27 _ (0, 0) _ rfl (HS.bx _ (.head _)).2.2 Tryz.underlying27 rfl (by rw [Tryz.gT]; rfl)) rfl ⟨_, rfl, Kd.ke HS.q (fun k hk => by subst hok; exact hk.elim Or.inl (fun h => Or.inr h.1)), HS.be⟩
    | succ k1 =>
      have hil : i < d.f0.length := by have := hi.1; omega
      have nk : decide ((i : Int) < (d.f0.length : Int)) = true := decide_eq_true (by omega)
      have q1 := eq_true (show (0 : Int) ≤ (i : Int) by omega)
      have q2 := eq_true (show (i : Int) < (d.f0.length : Int) by omega)
      obtain ⟨x, hx⟩ : ∃ x, ai d.f0 (i : Int) = x := ⟨_, rfl⟩
      have hget : ∀ W : World, Below w.heap.size w W → ∃ ad A c, A0 = some ad ∧ Kd.FK bc W (fun k => P k ∧ k < w.heap.size) x [.int .i64 x.f0, .slice A x.f1.length c, .int .i64 x.f2] ∧ W.cell? (ad.add (i * 3)) = some (.int .i64 x.f0) ∧ W.cell? ⟨(ad.add (i * 3)).block, (ad.add (i * 3)).off + 1, none⟩ = some (.slice A x.f1.length c) ∧ W.cell? ⟨(ad.add (i * 3)).block, (ad.add (i * 3)).off + 2, none⟩ = some (.int .i64 x.f2) := fun W hW => by
        obtain ⟨ad, cc, e, _, hFK, hcc, _⟩ := Kd.abm (Foot.step (Kd.Mt hF) (fun k _ hk => hW.block k hk)) gV (i : Int) (by omega) (by omega)
        obtain ⟨A, c, rfl, lA, _⟩ := alF hFK
        have hx' : d.f0.getD (i : Int).toNat gV = x := hx
        rw [hx'] at hFK hcc
        have hc : ∀ (j : Nat) u, [Value.int .i64 x.f0, .slice A x.f1.length c, .int .i64 x.f2][j]? = some u → W.cell? (ad.add (i * 3 + j)) = some u := hcc
        exact ⟨ad, A, c, e, hFK, hc 0 _ rfl, by rw [← qF _ _ 1 (by omega)]; exact hc 1 _ rfl, by rw [← qF _ _ 2 (by omega)]; exact hc 2 _ rfl⟩
      obtain ⟨ad, _, _, rfl, _, x0, _, _⟩ := hget _ HS.be
      obtain ⟨n1, v1⟩ : ∃ v, named d.f1 x.f0 = v := ⟨_, rfl⟩
      obtain ⟨n2, v2⟩ : ∃ v, named d.f2 x.f0 = v := ⟨_, rfl⟩
      have hlen := alH d.f0 d.f1 d.f2 i
      have hyes : (n1 || n2) = true → lG d.f0 d.f1 d.f2 i ++ [x] = lG d.f0 d.f1 d.f2 (i + 1) := fun h => by rw [alJ (by rw [hx, v1, v2]; exact h), hx]
      have hno : (n1 || n2) = false → lG d.f0 d.f1 d.f2 (i + 1) = lG d.f0 d.f1 d.f2 i := fun h => alI (by rw [hx, v1, v2]; exact h)
      replace v1 := J v1; replace v2 := J v2; replace hx := J hx; replace hyes := J hyes; replace hno := J hno; replace hget := J hget
      have kx := J (And.intro (mZ (HS.bx _ (.tail _ (.head _))).2.2 0) (And.intro (mZ (HS.bx _ (.tail _ (.head _))).2.2 1) (And.intro (mZ (HS.bx _ (.tail _ (.head _))).2.2 2) x0)))
      clear x0
      go_upto_region 5 with (first | (refine kI 1 0 HS ?_))
      cases n1; cases n2
      iterate 3 (refine fk (n := 20) (S := fun W => W.cell? ⟨g1, 0, none⟩ = some (.slice (some ad) d.f0.length c0) ∧ W.cell? ⟨g1, 1, none⟩ = some (.slice A1 d.f1.length c1) ∧ W.cell? ⟨g1, 2, none⟩ = some (.slice A2 d.f2.length c2) ∧ W.cell? (ad.add (i * 3)) = some (.int .i64 x.f0)) (ds := []) (mb 0 20) (by kernel_rfl) rfl rfl kx.1 (fun hh => ?_); rotate_left)
      all_goals
        replace HS := HS.drew
        (repeat (first | refine sU ?_ | refine sD hh ?_ | (refine sC Tryz.func108 (Lp (Kd.aw r1 HS.be) l1 h1 x.f0) ?_; rintro e w5 ⟨rfl, hb⟩; replace HS := HS.below hb; rw [v1.1]; refine ⟨_, rfl, ⟨mX hb hh.1, mX hb hh.2.1, mX hb hh.2.2.1, mX hb hh.2.2.2⟩, fun hh => rN ?_⟩; clear hb) | (refine sC Tryz.func108 (Lp (Kd.aw r2 HS.be) l2 h2 x.f0) ?_; rintro e w5 ⟨rfl, hb⟩; replace HS := HS.below hb; rw [v2.1]; refine ⟨_, rfl, ⟨mX hb hh.1, mX hb hh.2.1, mX hb hh.2.2.1, mX hb hh.2.2.2⟩, fun hh => rN ?_⟩; clear hb) | refine sP ?_)); refine fA (by decide +kernel) ?_; clear hh kx
        first
        | (have tl := hno.1 rfl
           go_wp2
           go_roundg k1
           case measure => omega
           case rel => exact ⟨i + 1, congrArg (Value.int .i64) (by first | (unfold wrap64; omega) | omega), ⟨by have := hi.1; omega⟩, by rw [tl]; exact HS⟩)
        | (have tl := J (hyes.1 rfl)
           obtain ⟨yv, A, c, e2, hFK, x0, x1, x2⟩ := hget.1 _ HS.be
           obtain rfl := Option.some.inj e2
           have Cl := eF (HS.bx _ (.tail _ (.head _))).2.2
           have Kt := eF (HS.bx _ (.head _)).2.2
           have hsz := HS.be.size
           replace hFK := J hFK
           go_wp2_with (first | (refine kI 1 0 HS ?_) | ((with_reducible refine aH (N := 39) rfl ?_); refine uL1 #[.int .i64 x.f0, .slice A x.f1.length c, .int .i64 x.f2] 1 63 ?_) | ((with_reducible refine aH (N := 40) rfl ?_); refine Kd.adB bc (w0 := w) w.heap.size (by rfl) (.tmp 33) (.tmp 39) 24 63 (.agg #[.int .i64 0, .slice none 0 0, .int .i64 0]) 40 rfl Tryz.underlying24 wY rfl (by decide) (by omega) _ _ x [.int .i64 x.f0, .slice A x.f1.length c, .int .i64 x.f2] ok (fun k => P k ∧ k < w.heap.size) rfl rfl hFK.1 (fun k hk => ⟨by subst hok; exact .inl hk, fun e => by have := Kd.Ut HS.q k e.symm; omega⟩) (fun k hk => by subst hok; simp only at Cl Kt; omega) HS.q HS.be hsz (by omega) ?_; intro v7 w7 hN hb hg hat; rw [tl.1] at hN; replace HS := HS.aha hb hg (fun k e b hm => (hbox _ _ k (HS.q.1 k e)).2 b hm) ((Pp hN).mono (hbox _ _)); clear hN hb hg hat))
           go_roundg k1
           case measure => omega
           case rel => exact ⟨i + 1, congrArg (Value.int .i64) (by first | (unfold wrap64; omega) | omega), ⟨by have := hi.1; omega⟩, HS⟩)
end Go.Proofs.YtingkpnoiekliaaGreat.MZ
end
section
namespace Go.Proofs.YtingkpnoiekliaaGreat.MZ
open Go.RowKit Go.Proofs.YtingkpnoiekliaaGreatW.PrintWords Go.Proofs.YtingkpnoiekliaaGreatW.PrintLast Go.Proofs.YtingkpnoiekliaaGreatW.PrintMore Go.Proofs.YtingkpnoiekliaaGreat.MWords
set_option linter.unusedVariables false
set_option linter.unusedSimpArgs false
set_option maxHeartbeats 8000000 in
set_option maxRecDepth 100000 in
theorem ZN {w : World} {cs : Array Value} {d : Dk} {A : Option Addr} {c : Nat} {l : List aa} (hd : cO cs d w) (h0 : d.f0.length ≤ 1048576) (hr : Kd.C an w A l.length l) (hc : l.length ≤ c) (hl : l.length ≤ 1048576) (hz : ∀ e ∈ l, e.f0.size ≤ 9223372036854775807) : Calls Tryz.prog 109 #[.agg cs, .slice A l.length c] w (fun e w' => e = .returned (.bool (gZ d.f0 l)) ∧ Below w.heap.size w w') := by
  have HS := St.start w (fun _ => False)
  have h4 := hd.size
  have hu := Tryz.underlying89
  obtain ⟨r, er⟩ : ∃ r, gZ d.f0 l = r := ⟨_, rfl⟩
  rw [er]
  go_enter Tryz.func109, Tryz.ntmps109
  go_wp2_with (first | ((with_reducible refine aH (N := 2) rfl ?_); refine aT 2 cs 27 ?_; intro g2 hg w1 hx hb; replace HS := HS.box hg hx hb h4; clear hb hx hg))
  go_loopg [5] l.length (fun kq v5 w' => ∃ (i : Nat), v5 = .int .i64 (i : Int) ∧ Aside0 (kq + i = l.length) ∧ Aside0 (eT (na d.f0 l) (fun _ => false) (decide ((l.length : Int) ≤ 30)) i kq = r) ∧ St w (fun _ => False) [(g2, cs)] (fun _ => True) w')
  case atStart => exact ⟨0, rfl, ⟨rfl⟩, ⟨er⟩, HS⟩
  case round =>
    clear HS
    obtain ⟨i, rfl, hi, hR, HS⟩ := hrel
    cases gk with
    | zero =>
      have jn : decide ((i : Int) < (l.length : Int)) = false := decide_eq_false (by have := hi.1; omega)
      have q3 : ¬ i < l.length := by have := hi.1; omega
      have q4 := decide_eq_false q3
      have qN : decide ((l.length : Int) ≤ 30) = r := hR.1
      go_wp2
      go_ret
      exact ⟨rfl, HS.be⟩
    | succ k1 =>
      have hil : i < l.length := by have := hi.1; omega
      have nk : decide ((i : Int) < (l.length : Int)) = true := decide_eq_true (by omega)
      have q1 := eq_true (show (0 : Int) ≤ (i : Int) by omega)
      have q2 := eq_true (show (i : Int) < (l.length : Int) by omega)
      go_upto_region 4 with (fail)
      obtain ⟨e, he⟩ : ∃ e, aG l (i : Int) = e := ⟨_, rfl⟩
      obtain ⟨p, hp⟩ : ∃ e, aG l ((i - 1 : Nat) : Int) = e := ⟨_, rfl⟩
      have jn := hz _ (Lh hil)
      rw [he] at jn
      obtain ⟨v, v1⟩ : ∃ v, fv e.f0 = v := ⟨_, rfl⟩
      obtain ⟨bn, v2⟩ : ∃ v, decide (fo d.f0 e.f1 < 0) = v := ⟨_, rfl⟩
      obtain ⟨iv, c3⟩ : ∃ v, decide (0 < i) = v := ⟨_, rfl⟩
      have c4 : decide ((i : Int) > 0) = iv := (decide_eq_decide.mpr (by omega)).trans c3
      obtain ⟨ls, c5⟩ : ∃ v, Op.bytesLess p.f0.toList e.f0.toList = v := ⟨_, rfl⟩
      obtain ⟨nm, v5⟩ : ∃ v, named (l.take i) e.f1 = v := ⟨_, rfl⟩
      have hbd : na d.f0 l i = (!v || bn || (iv && !ls) || nm) := by unfold na; rw [he, v1, v2, hp, c3, c5, v5]
      rw [al8 (by omega)] at v5
      replace hbd := J hbd; replace v1 := J v1; replace he := J he; replace hp := J hp; replace v5 := J v5
      obtain ⟨ad, rfl, x0, x1⟩ := gi (Kd.aw hr HS.be) (i : Int) (by omega) (by omega)
      rw [he.1, Int.toNat_natCast] at x0 x1
      have kx := J (And.intro (HS.bx _ (.head _)).2.2 (And.intro x0 x1))
      clear x0 x1
      cases v; rotate_left; cases bn; cases iv; rotate_left
      have i1 : 0 < i := of_decide_eq_true c3
      obtain ⟨de, hde⟩ : ∃ z, wrap64 ((i : Int) - 1) = z := ⟨_, rfl⟩
      have mi : de = ((i - 1 : Nat) : Int) := by rw [← hde]; unfold wrap64; omega
      have q5 := eq_true (show (0 : Int) ≤ de by omega)
      have q6 := eq_true (show de < (l.length : Int) by omega)
      have ti := J (And.intro kx.1.1 (And.intro (Vg (Kd.aw hr HS.be) (show i - 1 < _ by omega) de mi hp.1) kx.1.2))
      replace mi := J mi
      have auf : (IntKind.i64.wrap ((i : Int) - 1)) = de := (dJ _).trans hde
      cases ls
      iterate 2 (refine fk (n := 35) (S := fun W => W.heap[g2]? = some (.cells cs 27 (0, 0)) ∧ W.cell? (ad.add (de.toNat * 2)) = some (.string p.f0) ∧ W.cell? (ad.add (i * 2)) = some (.string e.f0) ∧ W.cell? ⟨(ad.add (i * 2)).block, (ad.add (i * 2)).off + 1, none⟩ = some (.int .i64 e.f1)) (ds := []) (mb 0 35) (by kernel_rfl) rfl rfl ti.1 (fun hh => ?_); rotate_left)
      iterate 3 (refine fk (n := 35) (S := fun W => W.heap[g2]? = some (.cells cs 27 (0, 0)) ∧ W.cell? (ad.add (i * 2)) = some (.string e.f0) ∧ W.cell? ⟨(ad.add (i * 2)).block, (ad.add (i * 2)).off + 1, none⟩ = some (.int .i64 e.f1)) (ds := []) (mb 0 35) (by kernel_rfl) rfl rfl kx.1 (fun hh => ?_); rotate_left)
      all_goals
        replace HS := HS.drew
        (repeat (first | refine sU ?_ | refine sL hh (fun _ h => h.1) h4 ?_ | refine sD hh ?_ | (refine sC Tryz.func72 (ZO jn) ?_; rintro e' w5 ⟨rfl, hb⟩; replace HS := HS.below hb; rw [v1.1]; refine ⟨_, rfl, (by first | exact ⟨bg hh.1 hb, mX hb hh.2.1, mX hb hh.2.2⟩ | exact ⟨bg hh.1 hb, mX hb hh.2.1, mX hb hh.2.2.1, mX hb hh.2.2.2⟩), fun hh => rN ?_⟩; clear hb) | (refine sC Tryz.func74 (amK (dO hd HS.be) h0 _) ?_; rintro e' w5 ⟨rfl, hb⟩; replace HS := HS.below hb; refine ⟨_, rfl, (by first | exact ⟨bg hh.1 hb, mX hb hh.2.1, mX hb hh.2.2⟩ | exact ⟨bg hh.1 hb, mX hb hh.2.1, mX hb hh.2.2.1, mX hb hh.2.2.2⟩), fun hh => rN ?_⟩; clear hb) | refine sP ?_)); refine fA (by decide +kernel) ?_
        first
        | (have hbad : na d.f0 l i = true := hbd.1
           obtain rfl : false = r := (BS hbad).symm.trans hR.1
           go_wp2
           go_ret
           exact ⟨rfl, HS.be⟩)
        | (have hbad : na d.f0 l i = nm := hbd.1
           replace hbad := J hbad
           clear kx hh hbd
           go_wp2
           go_loopg [6] i (fun kq v6 w' => ∃ (j : Nat), v6 = .int .i64 (j : Int) ∧ Aside0 (kq + j = i) ∧ Aside0 (eT (fun j => decide ((aG l (j : Int)).f1 = e.f1)) (fun _ => true) false j kq = nm) ∧ St w (fun _ => False) [(g2, cs)] (fun _ => True) w')
           case atStart => exact ⟨0, rfl, ⟨rfl⟩, v5, HS⟩
           case round =>
             clear HS
             obtain ⟨j, rfl, hj, hN, HS⟩ := hrel
             cases gk with
             | zero =>
               have hz3 : decide ((j : Int) < (i : Int)) = false := decide_eq_false (by have := hj.1; omega)
               have q9 : ¬ j < i := by have := hj.1; omega
               have uP := decide_eq_false q9
               have qN := J ((EK (hbad.1.trans hN.1.symm)).symm.trans hR.1)
               go_wp2
               go_roundg k1
               case measure => omega
               case rel => exact ⟨i + 1, congrArg (Value.int .i64) (by first | (unfold wrap64; omega) | omega), ⟨by have := hi.1; omega⟩, qN, HS⟩
             | succ k2 =>
               have hz3 : decide ((j : Int) < (i : Int)) = true := decide_eq_true (by have := hj.1; omega)
               have q9 : j < i := by have := hj.1; omega
               have uP := decide_eq_true q9
               have q7 := eq_true (show (0 : Int) ≤ (j : Int) by omega)
               have q8 := eq_true (show (j : Int) < (l.length : Int) by have := hj.1; omega)
               go_upto_region 9 with (fail)
               obtain ⟨yv, e2, y0, y1⟩ := gi (Kd.aw hr HS.be) (j : Int) (by omega) (by have := hj.1; omega)
               obtain rfl := Option.some.inj e2
               obtain ⟨ad3, e3, x0, x1⟩ := gi (Kd.aw hr HS.be) (i : Int) (by omega) (by omega)
               obtain rfl := Option.some.inj e3
               rw [he.1, Int.toNat_natCast] at x1
               rw [Int.toNat_natCast] at y1
               obtain ⟨f, hf⟩ : ∃ f, aG l (j : Int) = f := ⟨_, rfl⟩
               rw [hf] at y1
               obtain ⟨b, vb⟩ : ∃ v, decide (f.f1 = e.f1) = v := ⟨_, rfl⟩
               have zk : (fun j : Nat => decide ((aG l (j : Int)).f1 = e.f1)) j = b := by show decide (_ = _) = b; rw [hf]; exact vb
               replace zk := J zk
               replace hf := J hf
               have iu := J (And.intro y1 x1)
               clear x0 x1 y0 y1
               cases b
               all_goals
                 refine fk (n := 11) (S := fun W => W.cell? ⟨(ad.add (j * 2)).block, (ad.add (j * 2)).off + 1, none⟩ = some (.int .i64 f.f1) ∧ W.cell? ⟨(ad.add (i * 2)).block, (ad.add (i * 2)).off + 1, none⟩ = some (.int .i64 e.f1)) (ds := []) (mb 0 11) (by kernel_rfl) rfl rfl iu.1 (fun hh => ?_)
                 replace HS := HS.drew
                 (repeat (first | refine sD hh ?_ | refine sP ?_)); refine fA (by decide +kernel) ?_
                 clear hh
               · have nb := of_decide_eq_false vb
                 have EV := J ((EK zk.1).symm.trans hN.1)
                 go_wp2
                 go_roundg k2
                 case measure => omega
                 case rel => exact ⟨j + 1, congrArg (Value.int .i64) (by first | (unfold wrap64; omega) | omega), ⟨by have := hj.1; omega⟩, EV, HS⟩
               · have nb := of_decide_eq_true vb
                 obtain rfl : true = nm := (BS zk.1).symm.trans hN.1
                 obtain rfl : false = r := (BS hbad.1).symm.trans hR.1
                 go_wp2
                 go_ret
                 exact ⟨rfl, HS.be⟩)
end Go.Proofs.YtingkpnoiekliaaGreat.MZ
end
section
namespace Go.Proofs.YtingkpnoiekliaaGreat.MZ
open Go.RowKit Go.Proofs.YtingkpnoiekliaaGreatW.PrintWords Go.Proofs.YtingkpnoiekliaaGreatW.PrintLast Go.Proofs.YtingkpnoiekliaaGreatW.PrintMore Go.Proofs.YtingkpnoiekliaaGreat.MWords
set_option linter.unusedVariables false
set_option linter.unusedSimpArgs false
set_option maxHeartbeats 8000000 in
set_option maxRecDepth 100000 in
theorem Sb {w : World} {cs : Array Value} {d : Dk} (hd : cO cs d w) (hs : Small d.f0 d.f1 d.f2) : Calls Tryz.prog 71 #[.agg cs] w (fun e w' => e = .returned (.bool (bR d.f0 d.f1 d.f2 d.f3)) ∧ Below w.heap.size w w') := by
  have HS := St.start w (fun _ => False)
  have kA := hd
  obtain ⟨A0, c0, A1, c1, A2, c2, rfl, U, r0, l1, r1, l2, r2⟩ := hd.open
  clear hd
  have hu := Tryz.underlying63
  obtain ⟨R, er⟩ : ∃ r, eT (iW d.f0 d.f1 d.f2 d.f3) (fun _ => true) false 0 d.f0.length = r := ⟨_, rfl⟩
  have hres : bR d.f0 d.f1 d.f2 d.f3 = (decide (1 ≤ d.f3 ∧ d.f3 ≤ 1000000) && (!R && (decide (iZ d.f0 d.f0.length ≤ 60000) && (gZ d.f0 d.f1 && gZ d.f0 d.f2)))) := by unfold bR oE; rw [er]
  obtain ⟨a, va⟩ : ∃ v, decide (1 ≤ d.f3 ∧ d.f3 ≤ 1000000) = v := ⟨_, rfl⟩
  obtain ⟨b, vb⟩ : ∃ v, decide (iZ d.f0 d.f0.length ≤ 60000) = v := ⟨_, rfl⟩
  obtain ⟨e1, tG⟩ : ∃ v, gZ d.f0 d.f1 = v := ⟨_, rfl⟩
  obtain ⟨e2, tH⟩ : ∃ v, gZ d.f0 d.f2 = v := ⟨_, rfl⟩
  obtain ⟨lf, vl⟩ : ∃ v, decide (60 < d.f0.length) = v := ⟨_, rfl⟩
  have vl2 : decide ((d.f0.length : Int) > 60) = lf := (decide_eq_decide.mpr (by omega)).trans vl
  have hlf : lf = true → (!R && (b && (e1 && e2))) = false := fun h => by
    have h60 := of_decide_eq_true (vl.trans h)
    cases R <;> cases e1 <;> cases e2 <;> first | (cases b <;> rfl) | (have := Ph (ds := d.f0) (nx := d.f3) (by unfold oE; rw [er]; rfl) tG tH; omega)
  rw [hres, va, vb, tG, tH]
  clear hres
  replace va := J va; replace tG := J tG; replace tH := J tH
  cases a; rotate_left; cases lf; rotate_left
  all_goals
    (try have q8 := of_decide_eq_true vl); (try have q8 := of_decide_eq_false vl)
    go_enter Tryz.func71, Tryz.ntmps71
    go_wp2_with (first | ((with_reducible refine aH (N := 1) rfl ?_); refine aT 1 #[.slice A0 d.f0.length c0, .slice A1 d.f1.length c1, .slice A2 d.f2.length c2, .int .i64 d.f3] 27 ?_; intro g1 hg w1 hx hb; replace HS := HS.box hg hx hb rfl; clear hb hx hg) | (refine kI 0 3 HS ?_) | ((with_reducible refine aJ (f := 107) rfl ?_); refine bP Tryz.func107 (Sc d.f3 1 1000000) ?_; rintro e w5 ⟨rfl, hb⟩; replace HS := HS.below hb; rw [va.1]; refine ⟨_, rfl, ?_⟩; clear hb) | ((with_reducible refine JK rfl ?_); refine jx (by rfl) ?_; dsimp only; refine kI 0 0 HS ?_))
  · go_ret
    exact ⟨by first | rfl | (rw [Bool.true_and, hlf rfl]; rfl), HS.be⟩
  · go_ret
    exact ⟨rfl, HS.be⟩
  clear hlf
  go_loopg [3, 4] d.f0.length (fun kq v3 v9 w' => ∃ (i : Nat), v9 = .int .i64 (i : Int) ∧ v3 = .int .i64 (iZ d.f0 i) ∧ Aside0 (kq + i = d.f0.length) ∧ Aside0 (eT (iW d.f0 d.f1 d.f2 d.f3) (fun _ => true) false i kq = R) ∧ St w (fun _ => False) [(g1, #[.slice A0 d.f0.length c0, .slice A1 d.f1.length c1, .slice A2 d.f2.length c2, .int .i64 d.f3])] (fun _ => True) w')
  case atStart => exact ⟨0, rfl, rfl, ⟨rfl⟩, ⟨er⟩, HS⟩
  case round =>
    clear HS
    obtain ⟨i, rfl, rfl, hi, hR, HS⟩ := hrel
    have hlen := hs.h0
    cases gk with
    | zero =>
      have jn : decide ((i : Int) < (d.f0.length : Int)) = false := decide_eq_false (by have := hi.1; omega)
      have q3 : ¬ i < d.f0.length := by have := hi.1; omega
      have q4 := decide_eq_false q3
      obtain rfl : i = d.f0.length := by have := hi.1; omega
      obtain rfl : false = R := hR.1
      clear hR hi q3 q4 jn
      cases b <;> cases e1
      all_goals
        go_wp2_with (first | (refine kI 0 0 HS ?_) | ((with_reducible refine JK rfl ?_); refine jx (by rfl) ?_; dsimp only; (first | refine bu 0 HS ?_ | refine kI 0 1 HS ?_ | refine kI 0 2 HS ?_)) | ((with_reducible refine aJ (f := 109) rfl ?_); refine jx (by rfl) ?_; dsimp only; (first | (refine bP Tryz.func109 (ZN (dO kA HS.be) hs.h0 (Kd.aw r1 HS.be) l1 hs.h1 hs.z1) ?_; rintro e w5 ⟨rfl, hb⟩; rw [tG.1]) | (refine bP Tryz.func109 (ZN (dO kA HS.be) hs.h0 (Kd.aw r2 HS.be) l2 hs.h2 hs.z2) ?_; rintro e w5 ⟨rfl, hb⟩; rw [tH.1])); replace HS := HS.below hb; refine ⟨_, rfl, ?_⟩; clear hb))
        go_ret
        exact ⟨by simp, HS.be⟩
    | succ k1 =>
      have hil : i < d.f0.length := by have := hi.1; omega
      have nk : decide ((i : Int) < (d.f0.length : Int)) = true := decide_eq_true (by omega)
      have q1 := eq_true (show (0 : Int) ≤ (i : Int) by omega)
      have q2 := eq_true (show (i : Int) < (d.f0.length : Int) by omega)
      have hsum := Zu hs.hd hil hs.h0
      obtain ⟨ad, A, c, rfl, x0, x1, x2, _, _⟩ := hY (Kd.aw r0 HS.be) (i : Int) (by omega) (by omega)
      rw [Int.toNat_natCast] at x0 x1 x2
      obtain ⟨x, nS⟩ : ∃ e, ai d.f0 (i : Int) = e := ⟨_, rfl⟩
      obtain ⟨p, hp⟩ : ∃ e, ai d.f0 ((i - 1 : Nat) : Int) = e := ⟨_, rfl⟩
      rw [nS] at x0 x1 x2 hsum
      have au2 : (IntKind.i64.wrap (iZ d.f0 i + (x.f1.length : Int))) = iZ d.f0 (i + 1) := (dJ _).trans hsum
      clear hsum
      go_upto_region 8 with (first | (refine kI 0 0 HS ?_) | ((with_reducible refine aH (N := 5) rfl ?_); refine aT 5 #[.int .i64 0, .slice none 0 0, .int .i64 0] 63 ?_; intro g5 hg w1 hx hb; have Fj := Nat.le_trans HS.be.size (Nat.le_of_eq hg.symm); have QE := HS.fresh hg; replace HS := HS.below hb; replace x0 := mX hb x0; replace x1 := mX hb x1; replace x2 := mX hb x2; clear hb hg; obtain ⟨y0, y1, y2, y3, y4, y5⟩ := ib hx))
      have iu := HS.tri (u0 := .int .i64 x.f0) (u1 := .slice A x.f1.length c) (u2 := .int .i64 x.f2) hx Fj QE
      generalize (((w1.setCell ⟨g5, 0, none⟩ (.int .i64 x.f0)).setCell ⟨g5, 1, none⟩ (.slice A x.f1.length c)).setCell ⟨g5, 2, none⟩ (.int .i64 x.f2)) = w2 at iu ⊢
      clear x0 x1 x2 y0 y1 y2 y3 y4 y5 hx HS
      obtain ⟨HS, hx⟩ := iu
      obtain ⟨dn, hdn⟩ : ∃ z, wrap64 (d.f3 - 1) = z := ⟨_, rfl⟩
      have au1 : (IntKind.i64.wrap (d.f3 - 1)) = dn := (dJ _).trans hdn
      obtain ⟨b1, v1⟩ : ∃ v, decide (1 ≤ x.f0 ∧ x.f0 ≤ dn) = v := ⟨_, rfl⟩
      obtain ⟨b2, v2⟩ : ∃ v, decide (0 ≤ x.f2 ∧ x.f2 ≤ (x.f1.length : Int)) = v := ⟨_, rfl⟩
      obtain ⟨n1, v3⟩ : ∃ v, named d.f1 x.f0 = v := ⟨_, rfl⟩
      obtain ⟨n2, v4⟩ : ∃ v, named d.f2 x.f0 = v := ⟨_, rfl⟩
      obtain ⟨iv, c3⟩ : ∃ v, decide (0 < i) = v := ⟨_, rfl⟩
      have c4 : decide ((i : Int) > 0) = iv := (decide_eq_decide.mpr (by omega)).trans c3
      obtain ⟨pv, c5⟩ : ∃ v, decide (p.f0 ≥ x.f0) = v := ⟨_, rfl⟩
      have hbd : iW d.f0 d.f1 d.f2 d.f3 i = (!b1 || !b2 || (iv && pv) || (!n1 && !n2)) := by unfold iW; rw [nS, hdn, v1, v2, hp, v3, v4, c3, c5]
      replace hbd := J hbd; replace v1 := J v1; replace v2 := J v2; replace v3 := J v3; replace v4 := J v4; replace hdn := J hdn; replace nS := J nS
      have kx := J (And.intro (mZ hx 0) (And.intro (mZ hx 1) (And.intro (mZ hx 2) (fu (HS.bx _ (.head _)).2.2))))
      cases b1; rotate_left; cases iv; cases b2; rotate_left; cases n1; cases n2; rotate_left 3
      have i1 : 0 < i := of_decide_eq_true c3
      obtain ⟨de, hde⟩ : ∃ z, wrap64 ((i : Int) - 1) = z := ⟨_, rfl⟩
      have mi : de = ((i - 1 : Nat) : Int) := by rw [← hde]; unfold wrap64; omega
      have q5 := eq_true (show (0 : Int) ≤ de by omega)
      have q6 := eq_true (show de < (d.f0.length : Int) by omega)
      have ti := J (And.intro (Vf (Kd.aw r0 HS.be) (show i - 1 < _ by omega) de mi hp) (And.intro kx.1.2.1 (And.intro kx.1.1 kx.1.2.2)))
      replace mi := J mi
      have auf : (IntKind.i64.wrap ((i : Int) - 1)) = de := (dJ _).trans hde
      cases pv; cases b2; rotate_left; cases n1; cases n2; rotate_right
      iterate 5 (refine fk (n := 48) (S := fun W => W.cell? (ad.add (de.toNat * 3)) = some (.int .i64 p.f0) ∧ W.cell? ⟨g5, 1, none⟩ = some (.slice A x.f1.length c) ∧ W.cell? ⟨g5, 0, none⟩ = some (.int .i64 x.f0) ∧ W.cell? ⟨g5, 2, none⟩ = some (.int .i64 x.f2) ∧ W.cell? ⟨g1, 0, none⟩ = some (.slice (some ad) d.f0.length c0) ∧ W.cell? ⟨g1, 1, none⟩ = some (.slice A1 d.f1.length c1) ∧ W.cell? ⟨g1, 2, none⟩ = some (.slice A2 d.f2.length c2) ∧ W.cell? ⟨g1, 3, none⟩ = some (.int .i64 d.f3)) (ds := []) (mb 0 48) (by kernel_rfl) rfl rfl ti.1 (fun hh => ?_); rotate_left)
      iterate 5 (refine fk (n := 48) (S := fun W => W.cell? ⟨g5, 0, none⟩ = some (.int .i64 x.f0) ∧ W.cell? ⟨g5, 1, none⟩ = some (.slice A x.f1.length c) ∧ W.cell? ⟨g5, 2, none⟩ = some (.int .i64 x.f2) ∧ W.cell? ⟨g1, 0, none⟩ = some (.slice (some ad) d.f0.length c0) ∧ W.cell? ⟨g1, 1, none⟩ = some (.slice A1 d.f1.length c1) ∧ W.cell? ⟨g1, 2, none⟩ = some (.slice A2 d.f2.length c2) ∧ W.cell? ⟨g1, 3, none⟩ = some (.int .i64 d.f3)) (ds := []) (mb 0 48) (by kernel_rfl) rfl rfl kx.1 (fun hh => ?_); rotate_left)
      all_goals
        replace HS := HS.drew
        (repeat (first | refine sU ?_ | refine sD hh ?_ | (refine sC Tryz.func107 (Sc x.f0 1 dn) ?_; rintro e w5 ⟨rfl, hb⟩; replace HS := HS.below hb; rw [v1.1]; refine ⟨_, rfl, (by first | exact uM hb hh | exact xb hb hh), fun hh => rN ?_⟩; clear hb) | (refine sC Tryz.func107 (Sc x.f2 0 x.f1.length) ?_; rintro e w5 ⟨rfl, hb⟩; replace HS := HS.below hb; rw [v2.1]; refine ⟨_, rfl, (by first | exact uM hb hh | exact xb hb hh), fun hh => rN ?_⟩; clear hb) | (refine sC Tryz.func108 (Lp (Kd.aw r1 HS.be) l1 hs.h1 x.f0) ?_; rintro e w5 ⟨rfl, hb⟩; replace HS := HS.below hb; rw [v3.1]; refine ⟨_, rfl, (by first | exact uM hb hh | exact xb hb hh), fun hh => rN ?_⟩; clear hb) | (refine sC Tryz.func108 (Lp (Kd.aw r2 HS.be) l2 hs.h2 x.f0) ?_; rintro e w5 ⟨rfl, hb⟩; replace HS := HS.below hb; rw [v4.1]; refine ⟨_, rfl, (by first | exact uM hb hh | exact xb hb hh), fun hh => rN ?_⟩; clear hb) | refine sP ?_)); refine fA (by decide +kernel) ?_; have z1 := hh.2.1; clear hh
        first
        | (have hbad : iW d.f0 d.f1 d.f2 d.f3 i = true := hbd.1.trans (by simp)
           obtain rfl : true = R := (BS hbad).symm.trans hR.1
           go_wp2
           go_ret
           exact ⟨by simp, HS.be⟩)
        | (have hbad : iW d.f0 d.f1 d.f2 d.f3 i = false := hbd.1
           have qN := J ((EK hbad).symm.trans hR.1)
           go_wp2
           go_roundg k1
           case measure => omega
           case rel => exact ⟨i + 1, congrArg (Value.int .i64) (by first | (unfold wrap64; omega) | omega), rfl, ⟨by have := hi.1; omega⟩, qN, HS⟩)
def tz.f (_k:Nat) (a:List al) (b c:List aa) (n:Int):Option Bool:=if CL a b c=true then some (bR a b c n) else none
theorem tz.calls (k:Nat) (A0:Option Addr) (c0:Nat) (U:List al) (A1:Option Addr) (c1:Nat) (l1:List aa) (A2:Option Addr) (c2:Nat) (l2:List aa) (n:Int) (r:Bool) (w:World) (h0:Kd.C bc w A0 U.length U) (e0:U.length≤c0) (h1:Kd.C an w A1 l1.length l1) (e1:l1.length≤c1) (h2:Kd.C an w A2 l2.length l2) (e2:l2.length≤c2) (h:tz.f k U l1 l2 n=some r) :
 Calls Tryz.prog 71 #[.agg #[.slice A0 U.length c0,.slice A1 l1.length c1,.slice A2 l2.length c2,.int .i64 n]] w fun e w'=>e = .returned (.bool r)∧Below w.heap.size w w':=by
 unfold tz.f at h;split at h
 ·rename_i hs;obtain rfl:=Option.some.inj h;exact Sb (d:=⟨U,l1,l2,n⟩) (uL w ⟨U,l1,l2,n⟩ e0 h0 e1 h1 e2 h2) (xr.1 hs)
 ·cases h
end Go.Proofs.YtingkpnoiekliaaGreat.MZ
end
