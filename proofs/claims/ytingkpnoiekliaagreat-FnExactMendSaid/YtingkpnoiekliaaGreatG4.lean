/- Walks and plain laws, put together: no condition of their own. -/
import Derived.Test.YtingkpnoiekliaaGreatG3
import Derived.Test.YtingkpnoiekliaaGreatVAll
import Derived.Test.YtingkpnoiekliaaGreatG1
section
namespace Go.Proofs.YtingkpnoiekliaaGreat.MZ
open Go.RowKit Go.Proofs.YtingkpnoiekliaaGreatW.PrintWords Go.Proofs.YtingkpnoiekliaaGreatW.PrintLast Go.Proofs.YtingkpnoiekliaaGreatW.PrintMore Go.Proofs.YtingkpnoiekliaaGreat.MWords
set_option linter.unusedVariables false
set_option linter.unusedSimpArgs false
set_option maxHeartbeats 8000000 in
set_option maxRecDepth 100000 in
theorem VA {w : World} {cs : Array Value} {d : Dk} (hd : cO cs d w) (hs : Small d.f0 d.f1 d.f2) : Calls Tryz.prog 11 #[.agg cs] w (fun e w' => e = .returned (.bool (bR d.f0 d.f1 d.f2 d.f3)) ∧ Below w.heap.size w w') := by
  have HS := St.start w (fun _ => False)
  have kA := hd
  obtain ⟨A0, c0, A1, c1, A2, c2, rfl, U, r0, l1, r1, l2, r2⟩ := hd.open
  clear hd
  have hu := Tryz.underlying63
  obtain ⟨R, er⟩ : ∃ r, eT (iW d.f0 d.f1 d.f2 d.f3) (fun _ => true) false 0 d.f0.length = r := ⟨_, rfl⟩
  have hres : bR d.f0 d.f1 d.f2 d.f3 = (decide (1 ≤ d.f3 ∧ d.f3 ≤ 1000000) && (!R && (decide (iZ d.f0 d.f0.length ≤ 60000) && (gZ d.f0 d.f1 && gZ d.f0 d.f2)))) := by unfold bR oE; rw [er]
  obtain ⟨a, va⟩ : ∃ v, decide (1 ≤ d.f3 ∧ d.f3 ≤ 1000000) = v := ⟨_, rfl⟩
  obtain ⟨b, vb⟩ : ∃ v, decide (iZ d.f0 d.f0.length ≤ 60000) = v := ⟨_, rfl⟩
  obtain ⟨e1, tG⟩ : ∃ v, gZ d.f0 d.f1 = v := ⟨_, rfl⟩
  obtain ⟨e2, tH⟩ : ∃ v, gZ d.f0 d.f2 = v := ⟨_, rfl⟩
  rw [hres, va, vb, tG, tH]
  clear hres
  replace va := J va; replace tG := J tG; replace tH := J tH
  go_enter Tryz.func11, Tryz.ntmps11
  go_wp2_with (first | ((with_reducible refine aH (N := 1) rfl ?_); refine aT 1 #[.slice A0 d.f0.length c0, .slice A1 d.f1.length c1, .slice A2 d.f2.length c2, .int .i64 d.f3] 27 ?_; intro g1 hg w1 hx hb; replace HS := HS.box hg hx hb rfl; clear hb hx hg) | (refine kI 0 0 HS ?_))
  go_loopg [3, 9] d.f0.length (fun kq v3 v9 w' => ∃ (i : Nat), v9 = .int .i64 (i : Int) ∧ v3 = .int .i64 (iZ d.f0 i) ∧ Aside0 (kq + i = d.f0.length) ∧ Aside0 (eT (iW d.f0 d.f1 d.f2 d.f3) (fun _ => true) false i kq = R) ∧ St w (fun _ => False) [(g1, #[.slice A0 d.f0.length c0, .slice A1 d.f1.length c1, .slice A2 d.f2.length c2, .int .i64 d.f3])] (fun _ => True) w')
  case atStart => exact ⟨0, rfl, rfl, ⟨rfl⟩, ⟨er⟩, HS⟩
  case round =>
    clear HS
    obtain ⟨i, rfl, rfl, hi, hR, HS⟩ := hrel
    have hlen := hs.h0
    cases gk with
    | zero =>
      have jn : decide ((i : Int) < (d.f0.length : Int)) = false := decide_eq_false (by have := hi.1; omega)
      have q3 : ¬ i < d.f0.length := by have := hi.1; omega
      have q4 := decide_eq_false q3
      obtain rfl : i = d.f0.length := by have := hi.1; omega
      obtain rfl : false = R := hR.1
      clear hR hi q3 q4 jn
      cases a <;> cases b <;> cases e1
      all_goals
        go_wp2_with (first | (refine kI 0 3 HS ?_) | ((with_reducible refine aJ (f := 38) rfl ?_); refine bP Tryz.func38 (Ov d.f3 1 1000000) ?_; rintro e w5 ⟨rfl, hb⟩; replace HS := HS.below hb; rw [va.1]; refine ⟨_, rfl, ?_⟩; clear hb) | ((with_reducible refine JK rfl ?_); refine jx (by rfl) ?_; dsimp only; (first | refine bu 0 HS ?_ | refine kI 0 1 HS ?_ | refine kI 0 2 HS ?_)) | ((with_reducible refine aJ (f := 40) rfl ?_); refine jx (by rfl) ?_; dsimp only; (first | (refine bP Tryz.func40 (Vz (dO kA HS.be) hs.h0 (Kd.aw r1 HS.be) l1 hs.h1 hs.z1) ?_; rintro e w5 ⟨rfl, hb⟩; rw [tG.1]) | (refine bP Tryz.func40 (Vz (dO kA HS.be) hs.h0 (Kd.aw r2 HS.be) l2 hs.h2 hs.z2) ?_; rintro e w5 ⟨rfl, hb⟩; rw [tH.1])); replace HS := HS.below hb; refine ⟨_, rfl, ?_⟩; clear hb))
        go_ret
        exact ⟨by simp, HS.be⟩
    | succ k1 =>
      have hil : i < d.f0.length := by have := hi.1; omega
      have nk : decide ((i : Int) < (d.f0.length : Int)) = true := decide_eq_true (by omega)
      have q1 := eq_true (show (0 : Int) ≤ (i : Int) by omega)
      have q2 := eq_true (show (i : Int) < (d.f0.length : Int) by omega)
      have hsum := Zu hs.hd hil hs.h0
      obtain ⟨ad, A, c, rfl, x0, x1, x2, _, _⟩ := hY (Kd.aw r0 HS.be) (i : Int) (by omega) (by omega)
      rw [Int.toNat_natCast] at x0 x1 x2
      obtain ⟨x, nS⟩ : ∃ e, ai d.f0 (i : Int) = e := ⟨_, rfl⟩
      obtain ⟨p, hp⟩ : ∃ e, ai d.f0 ((i - 1 : Nat) : Int) = e := ⟨_, rfl⟩
      rw [nS] at x0 x1 x2 hsum
      have au2 : (IntKind.i64.wrap (iZ d.f0 i + (x.f1.length : Int))) = iZ d.f0 (i + 1) := (dJ _).trans hsum
      clear hsum
      go_upto_region 5 with (first | ((with_reducible refine aH (N := 5) rfl ?_); refine aT 5 #[.int .i64 0, .slice none 0 0, .int .i64 0] 63 ?_; intro g5 hg w1 hx hb; have Fj := Nat.le_trans HS.be.size (Nat.le_of_eq hg.symm); have QE := HS.fresh hg; replace HS := HS.below hb; replace x0 := mX hb x0; replace x1 := mX hb x1; replace x2 := mX hb x2; clear hb hg; obtain ⟨y0, y1, y2, y3, y4, y5⟩ := ib hx))
      have iu := HS.tri (u0 := .int .i64 x.f0) (u1 := .slice A x.f1.length c) (u2 := .int .i64 x.f2) hx Fj QE
      generalize (((w1.setCell ⟨g5, 0, none⟩ (.int .i64 x.f0)).setCell ⟨g5, 1, none⟩ (.slice A x.f1.length c)).setCell ⟨g5, 2, none⟩ (.int .i64 x.f2)) = w2 at iu ⊢
      clear x0 x1 x2 y0 y1 y2 y3 y4 y5 hx HS
      obtain ⟨HS, hx⟩ := iu
      obtain ⟨dn, hdn⟩ : ∃ z, wrap64 (d.f3 - 1) = z := ⟨_, rfl⟩
      have au1 : (IntKind.i64.wrap (d.f3 - 1)) = dn := (dJ _).trans hdn
      obtain ⟨b1, v1⟩ : ∃ v, decide (1 ≤ x.f0 ∧ x.f0 ≤ dn) = v := ⟨_, rfl⟩
      obtain ⟨b2, v2⟩ : ∃ v, decide (0 ≤ x.f2 ∧ x.f2 ≤ (x.f1.length : Int)) = v := ⟨_, rfl⟩
      obtain ⟨n1, v3⟩ : ∃ v, named d.f1 x.f0 = v := ⟨_, rfl⟩
      obtain ⟨n2, v4⟩ : ∃ v, named d.f2 x.f0 = v := ⟨_, rfl⟩
      obtain ⟨iv, c3⟩ : ∃ v, decide (0 < i) = v := ⟨_, rfl⟩
      have c4 : decide ((i : Int) > 0) = iv := (decide_eq_decide.mpr (by omega)).trans c3
      obtain ⟨pv, c5⟩ : ∃ v, decide (p.f0 ≥ x.f0) = v := ⟨_, rfl⟩
      have hbd : iW d.f0 d.f1 d.f2 d.f3 i = (!b1 || !b2 || (iv && pv) || (!n1 && !n2)) := by unfold iW; rw [nS, hdn, v1, v2, hp, v3, v4, c3, c5]
      replace hbd := J hbd; replace v1 := J v1; replace v2 := J v2; replace v3 := J v3; replace v4 := J v4; replace hdn := J hdn; replace nS := J nS
      have kx := J (And.intro (mZ hx 0) (And.intro (mZ hx 1) (And.intro (mZ hx 2) (fu (HS.bx _ (.head _)).2.2))))
      cases b1; rotate_left; cases b2; rotate_left; cases iv; cases n1; cases n2; rotate_left 3
      have i1 : 0 < i := of_decide_eq_true c3
      obtain ⟨de, hde⟩ : ∃ z, wrap64 ((i : Int) - 1) = z := ⟨_, rfl⟩
      have mi : de = ((i - 1 : Nat) : Int) := by rw [← hde]; unfold wrap64; omega
      have q5 := eq_true (show (0 : Int) ≤ de by omega)
      have q6 := eq_true (show de < (d.f0.length : Int) by omega)
      have ti := J (And.intro (Vf (Kd.aw r0 HS.be) (show i - 1 < _ by omega) de mi hp) (And.intro kx.1.2.1 (And.intro kx.1.1 kx.1.2.2)))
      replace mi := J mi
      have auf : (IntKind.i64.wrap ((i : Int) - 1)) = de := (dJ _).trans hde
      cases pv; cases n1; cases n2
      iterate 4 (refine fk (n := 48) (S := fun W => W.cell? (ad.add (de.toNat * 3)) = some (.int .i64 p.f0) ∧ W.cell? ⟨g5, 1, none⟩ = some (.slice A x.f1.length c) ∧ W.cell? ⟨g5, 0, none⟩ = some (.int .i64 x.f0) ∧ W.cell? ⟨g5, 2, none⟩ = some (.int .i64 x.f2) ∧ W.cell? ⟨g1, 0, none⟩ = some (.slice (some ad) d.f0.length c0) ∧ W.cell? ⟨g1, 1, none⟩ = some (.slice A1 d.f1.length c1) ∧ W.cell? ⟨g1, 2, none⟩ = some (.slice A2 d.f2.length c2) ∧ W.cell? ⟨g1, 3, none⟩ = some (.int .i64 d.f3)) (ds := []) (mb 0 48) (by kernel_rfl) rfl rfl ti.1 (fun hh => ?_); rotate_left)
      iterate 5 (refine fk (n := 48) (S := fun W => W.cell? ⟨g5, 0, none⟩ = some (.int .i64 x.f0) ∧ W.cell? ⟨g5, 1, none⟩ = some (.slice A x.f1.length c) ∧ W.cell? ⟨g5, 2, none⟩ = some (.int .i64 x.f2) ∧ W.cell? ⟨g1, 0, none⟩ = some (.slice (some ad) d.f0.length c0) ∧ W.cell? ⟨g1, 1, none⟩ = some (.slice A1 d.f1.length c1) ∧ W.cell? ⟨g1, 2, none⟩ = some (.slice A2 d.f2.length c2) ∧ W.cell? ⟨g1, 3, none⟩ = some (.int .i64 d.f3)) (ds := []) (mb 0 48) (by kernel_rfl) rfl rfl kx.1 (fun hh => ?_); rotate_left)
      all_goals
        replace HS := HS.drew
        (repeat (first | refine sU ?_ | refine sD hh ?_ | (refine sC Tryz.func38 (Ov x.f0 1 dn) ?_; rintro e w5 ⟨rfl, hb⟩; replace HS := HS.below hb; rw [v1.1]; refine ⟨_, rfl, (by first | exact uM hb hh | exact xb hb hh), fun hh => rN ?_⟩; clear hb) | (refine sC Tryz.func38 (Ov x.f2 0 x.f1.length) ?_; rintro e w5 ⟨rfl, hb⟩; replace HS := HS.below hb; rw [v2.1]; refine ⟨_, rfl, (by first | exact uM hb hh | exact xb hb hh), fun hh => rN ?_⟩; clear hb) | (refine sC Tryz.func39 (Ou (Kd.aw r1 HS.be) l1 hs.h1 x.f0) ?_; rintro e w5 ⟨rfl, hb⟩; replace HS := HS.below hb; rw [v3.1]; refine ⟨_, rfl, (by first | exact uM hb hh | exact xb hb hh), fun hh => rN ?_⟩; clear hb) | (refine sC Tryz.func39 (Ou (Kd.aw r2 HS.be) l2 hs.h2 x.f0) ?_; rintro e w5 ⟨rfl, hb⟩; replace HS := HS.below hb; rw [v4.1]; refine ⟨_, rfl, (by first | exact uM hb hh | exact xb hb hh), fun hh => rN ?_⟩; clear hb) | refine sP ?_)); refine fA (by decide +kernel) ?_; have z1 := hh.2.1; clear hh
        first
        | (have hbad : iW d.f0 d.f1 d.f2 d.f3 i = true := hbd.1
           obtain rfl : true = R := (BS hbad).symm.trans hR.1
           go_wp2
           go_ret
           exact ⟨by simp, HS.be⟩)
        | (have hbad : iW d.f0 d.f1 d.f2 d.f3 i = false := hbd.1
           have qN := J ((EK hbad).symm.trans hR.1)
           go_wp2
           go_roundg k1
           case measure => omega
           case rel => exact ⟨i + 1, congrArg (Value.int .i64) (by first | (unfold wrap64; omega) | omega), rfl, ⟨by have := hi.1; omega⟩, qN, HS⟩)
def kD.f (_k:Nat) (a:List al) (b c:List aa) (n:Int):Option Bool:=if CL a b c=true then some (bR a b c n) else none
theorem kD.calls (k:Nat) (A0:Option Addr) (c0:Nat) (U:List al) (A1:Option Addr) (c1:Nat) (l1:List aa) (A2:Option Addr) (c2:Nat) (l2:List aa) (n:Int) (r:Bool) (w:World) (h0:Kd.C bc w A0 U.length U) (e0:U.length≤c0) (h1:Kd.C an w A1 l1.length l1) (e1:l1.length≤c1) (h2:Kd.C an w A2 l2.length l2) (e2:l2.length≤c2) (h:kD.f k U l1 l2 n=some r) :
 Calls Tryz.prog 11 #[.agg #[.slice A0 U.length c0,.slice A1 l1.length c1,.slice A2 l2.length c2,.int .i64 n]] w fun e w'=>e = .returned (.bool r)∧Below w.heap.size w w':=by
 unfold kD.f at h;split at h
 ·rename_i hs;obtain rfl:=Option.some.inj h;exact VA (d:=⟨U,l1,l2,n⟩) (uL w ⟨U,l1,l2,n⟩ e0 h0 e1 h1 e2 h2) (xr.1 hs)
 ·cases h
end Go.Proofs.YtingkpnoiekliaaGreat.MZ
end
section

end
section
namespace Go.Proofs.YtingkpnoiekliaaGreat.MZ
open Go.RowKit Go.Proofs.YtingkpnoiekliaaGreatW.PrintWords Go.Proofs.YtingkpnoiekliaaGreatW.PrintLast Go.Proofs.YtingkpnoiekliaaGreatW.PrintMore Go.Proofs.YtingkpnoiekliaaGreat.MWords
attribute [local go_sem] max2_int min2_int max_two min_two max_three min_three max_four min_four
set_option linter.unusedVariables false
set_option linter.unusedSimpArgs false
def wX.f (U:List Int):Option (List Int):=if ([]:List Int).length+U.length<140737488355328 then (some (([]:List Int)++U)) else (none)
set_option maxHeartbeats 8000000 in
set_option maxRecDepth 100000 in
theorem wX.calls (A0:Option Addr) (c0:Nat) (U:List Int) (r:List Int) (w:World) (bJ:Kd.C (Kd.int .u8) w A0 U.length U) (bz:U.length≤c0) (h:wX.f U=some r) :
 Calls Tryz.prog 36 #[.slice A0 U.length c0] w fun e w'=>∃cf:Value,e = .returned (cf)∧Kd.R (Kd.int .u8) 5 w' w.heap.size (fun _=>True) cf r∧Below w.heap.size w w':=by
 have bB:=J bJ;have eb:=J bz;clear bJ bz;have HB:=J (Below.refl w.heap.size w);have H:(if ([]:List Int).length+U.length<140737488355328 then (some (([]:List Int)++U)) else (none))=some r:=h;clear h;by_cases c2:([]:List Int).length+U.length<140737488355328
 ·rw[if_pos c2]at H;have rv:=J c2;clear c2;obtain⟨aoB,GB⟩:∃y_:List Int,y_=(([]:List Int)++U):=⟨_,rfl⟩;replace H:(some aoB)=some r:=by first|(rw[GB];with_reducible exact H)|(have aM:=(Option.bind_some _ _).symm.trans H;rw[GB];with_reducible exact aM)|(have aM:=(Option.bind_some _ _).symm.trans H;with_reducible exact aM)|with_reducible exact H|(rw[GB];exact H)|exact H
  have adH:=J GB;clear GB;obtain rfl:=Option.some.inj H;go_enter Tryz.func36,Tryz.ntmps36;go_wp2_with (first|((with_reducible refine kv (b:=.append) (xs:=#[.const (.slice none 0 0),.tmp 3]) rfl ?_);at_builtin;refine Kd.D0 (Kd.int .u8) (w0:=w) w.heap.size rfl (.const (.slice none 0 0)) (.tmp 3) 22 5 (.int .u8 0) 1 rfl Tryz.underlying22 sr rfl (by decide) (by omega) (.slice none 0 0) ([]:List Int) U _ _ _ (fun _=>True) (fun _=>False) rfl rfl ?aO ?aR (fun _ _ h=>h) (fun _ h=>h.elim) ?aF ?aB ?aS ?aL ?_;(case aR=>exact mC bB.1);(case aB=>exact(mH HB.1));(case aF=>exact(fun _ _=>trivial));(case aO=>exact((Kd.nH _ _ _ _ (fun _=>True))));(case aS=>exact(bl (mH HB.1)));(case aL=>have:=rv.1;omega);intro ayd w3 ho hb hg hat;rw[←adH.1]at ho;replace HB:=J (hb);have abS:=J (ho);clear ho hb hg hat));go_ret;exact⟨_,bN,mR abS.1,(mH HB.1)⟩
 ·rw[if_neg c2]at H;exact absurd H (by simp)
def fi.U:Nat→List (al)→Int→Int→List (al)→List (aa)→List (aa)→Int→Option ((List (al)) × (List (aa)) × (List (aa)) × Int)
 |0,_,_,_,_,_,_,_=>none
 |k+1,AV,C6,AW,SJ,aaI,aaJ,aaK=>if AW<C6 then (if 0≤AW then (if AW<(AV.length:Int) then ((wX.f ((ai AV AW).f1)).bind fun t192=>(if SJ.length<3518437208883 then (fi.U k AV C6 (wrap64 (AW+1)) (SJ++[(⟨(ai AV AW).f0,t192,(ai AV AW).f2⟩:al)]) aaI aaJ aaK) else (none))) else (none)) else (none)) else (some (SJ,aaI,aaJ,aaK))
def fi.f (k:Nat) (ab:List (al)) (af:List (aa)) (aj:List (aa)) (ak:Int):Option ((List (al)) × (List (aa)) × (List (aa)) × Int):=if ([]:List (aa)).length+af.length<5864062014805 then (if ([]:List (aa)).length+aj.length<5864062014805 then (fi.U k ab (ab.length:Int) 0 ([]:List (al)) (([]:List (aa))++af) (([]:List (aa))++aj) ak) else (none)) else (none)
def fi.T1:Bool × List (List Nat × List Nat):=(true,[([],[]),([0],[0]),([1],[1]),([],[]),([3],[3]),([4,2],[4]),([],[]),([6],[6]),([2,5,7],[2,5,7]),([],[]),([9,8,5,0,1,2,3,4,5,6,7,8,9],[8,9])])
def fi.B1:List Nat:=[0,1,3,0,8,31,0,64,255,0,1023]
theorem fi.qX:ez .any (opsOf Tryz.f27 1)=fi.T1:=by kernel_rfl
theorem fi.qG:jr fi.T1.2 fi.B1=true:=by kernel_rfl
set_option maxHeartbeats 8000000 in
set_option maxRecDepth 100000 in
theorem fi.calls (k:Nat) (aE:Option Addr) (av:Nat) (ab:List (al)) (aq:Option Addr) (ao:Nat) (af:List (aa)) (aC:Option Addr) (aD:Nat) (aj:List (aa)) (ak:Int) (r1:List (al)) (r2:List (aa)) (r3:List (aa)) (r4:Int) (w:World) (cI:Kd.C bc w aE ab.length ab) (cG:ab.length≤av) (cr:Kd.C an w aq af.length af) (cq:af.length≤ao) (cJ:Kd.C an w aC aj.length aj) (cH:aj.length≤aD) (h:fi.f k ab af aj ak=some (r1,r2,r3,r4)) :
 Calls Tryz.prog 27 #[.agg #[.slice aE ab.length av,.slice aq af.length ao,.slice aC aj.length aD,.int .i64 ak]] w fun e w'=>∃cf dt dF:Value,e = .returned (.agg #[cf,dt,dF,.int .i64 r4])∧Kd.S bc 63 w' w.heap.size (fun _=>True) cf r1∧Kd.R an 89 w' w.heap.size (fun k_=>some k_≠(dF:Value).ownBlock) dt r2∧Kd.R an 89 w' w.heap.size (fun k_=>some k_≠(dt:Value).ownBlock) dF r3∧Below w.heap.size w w':=by
 have kZ:=Tryz.underlying27;have wQ:=Tryz.underlying63;have ca:=J cI;have cA:=J cG;clear cI cG;have bW:=J cr;have cd:=J cq;clear cr cq;have cD:=J cJ;have cL:=J cH;clear cJ cH;have HB:=J (Below.refl w.heap.size w);have H:(if ([]:List (aa)).length+af.length<5864062014805 then (if ([]:List (aa)).length+aj.length<5864062014805 then (fi.U k ab (ab.length:Int) 0 ([]:List (al)) (([]:List (aa))++af) (([]:List (aa))++aj) ak) else (none)) else (none))=some (r1,r2,r3,r4):=h;clear h;by_cases c2:([]:List (aa)).length+af.length<5864062014805
 ·rw[if_pos c2]at H;have rv:=J c2;clear c2;obtain⟨jd,GD⟩:∃y_:List (aa),y_=(([]:List (aa))++af):=⟨_,rfl⟩;replace H:(if ([]:List (aa)).length+aj.length<5864062014805 then (fi.U k ab (ab.length:Int) 0 ([]:List (al)) jd (([]:List (aa))++aj) ak) else (none))=some (r1,r2,r3,r4):=by first|(rw[GD];with_reducible exact H)|(have aM:=(Option.bind_some _ _).symm.trans H;rw[GD];with_reducible exact aM)|(have aM:=(Option.bind_some _ _).symm.trans H;with_reducible exact aM)|with_reducible exact H|(rw[GD];exact H)|exact H
  have Ux:=J GD;clear GD;by_cases c3:([]:List (aa)).length+aj.length<5864062014805
  ·rw[if_pos c3]at H;have Bs:=J c3;clear c3;obtain⟨ka,GF⟩:∃y_:List (aa),y_=(([]:List (aa))++aj):=⟨_,rfl⟩;replace H:(fi.U k ab (ab.length:Int) 0 ([]:List (al)) jd ka ak)=some (r1,r2,r3,r4):=by first|(rw[GF];with_reducible exact H)|(have aM:=(Option.bind_some _ _).symm.trans H;rw[GF];with_reducible exact aM)|(have aM:=(Option.bind_some _ _).symm.trans H;with_reducible exact aM)|with_reducible exact H|(rw[GF];exact H)|exact H
   have NB:=J GF;clear GF;have H':=J H;clear H;go_enter Tryz.func27,Tryz.ntmps27
   try go_wp2_with (first|((with_reducible refine aH (N:=1) rfl ?_);refine aT 1 #[.slice aE ab.length av,.slice aq af.length ao,.slice aC aj.length aD,.int .i64 ak] 27 ?_;intro iK hg w4 hbox hb;have di:=J (hbox);have aoQ:=mG hg (mH HB.1);have fK:=mG hg (mH HB.1);replace HB:=J (ar (mH HB.1) hb);clear hb hbox hg)|((with_reducible refine aH (N:=2) rfl ?_);refine aT 2 #[.slice none 0 0,.slice none 0 0,.slice none 0 0,.int .i64 0] 27 ?_;intro nO hg w5 hbox hb;have dR:=J (hbox);have aoR:=mG hg (aI HB.1 fK.1);have gA:=mG hg (aI HB.1 fK.1);replace HB:=J (ar (aI HB.1 fK.1) hb);have Uk:=bI hg di.1;have Ul:=bH hg di.1;replace di:=mB di hb;clear hb hbox hg))
   replace di:=J (fc di.1);replace dR:=J (fc dR.1);replace HB:=J (fy HB.1);refine fk (n:=11) (S:=fun w'=>w'.cell? ⟨iK,0,none⟩=some (.slice aE ab.length av)∧w'.cell? ⟨iK,1,none⟩=some (.slice aq af.length ao)∧w'.cell? ⟨iK,2,none⟩=some (.slice aC aj.length aD)∧w'.cell? ⟨iK,3,none⟩=some (.int .i64 ak)) (ds:=[]) (mb 0 11) (by kernel_rfl) rfl rfl (fu di.1) (fun hHeld=>?_);refine jc fi.qX fi.qG (fun HT_ HW_=>?_);generalize w5.drew=w6 at di dR HB hHeld ⊢
   refine aW 0 6 HT_.1 (mb 1 10) ?_;refine aW 3 9 HT_.1 (mr [1,2,1,7]) ?_;refine aW 6 12 HT_.1 (mr [1,2,1,2,1,4]) ?_;refine cZ 1 7 HT_.1 HW_.1 (mr [2,1,1,2,1,4]) hHeld ?_;refine cZ 4 10 HT_.1 HW_.1 (mr [2,1,2,1,1,4]) hHeld ?_;refine cZ 7 13 HT_.1 HW_.1 (mr [2,1,2,1,2,3]) hHeld ?_;refine pg (σ:=Value × Value × Nat) 1 (mb 10 1) (fun s_=>[(8,s_.1),(11,s_.2.1),(3,.pointer (some ⟨s_.2.2,0,none⟩)),(14,.agg #[.slice none 0 0,s_.1,s_.2.1,.int .i64 ak])]) (fun s_ w'=>(w'.cell? ⟨iK,0,none⟩=some (.slice aE ab.length av)∧w'.cell? ⟨iK,1,none⟩=some (.slice aq af.length ao)∧w'.cell? ⟨iK,2,none⟩=some (.slice aC aj.length aD)∧w'.cell? ⟨iK,3,none⟩=some (.int .i64 ak))∧(Kd.R an 89 w' w.heap.size (fun k_=>some k_≠(s_.2.1:Value).ownBlock) s_.1 jd)∧(Kd.R an 89 w' w.heap.size (fun k_=>some k_≠(s_.1:Value).ownBlock) s_.2.1 ka)∧(w'.heap[iK]? = some (.cells #[.slice aE ab.length av,.slice aq af.length ao,.slice aC aj.length aD,.int .i64 ak] 27 (0,0)))∧(w'.heap[nO]? = some (.cells #[.slice none 0 0,.slice none 0 0,.slice none 0 0,.int .i64 0] 27 (0,0)))∧(w'.heap[s_.2.2]? = some (.cells #[.slice none 0 0,.slice none 0 0,.slice none 0 0,.int .i64 0] 27 (0,0)))∧(w.heap.size≤s_.2.2)∧(w.heap.size≤s_.2.2)∧(iK≠s_.2.2)∧(s_.2.2≠iK)∧(nO≠s_.2.2)∧(s_.2.2≠nO)∧(Below w.heap.size w w')) ?_ ?_
   rotate_left
   ·intro hCont;refine tD (i:=2) (j:=9) (Ni:=some 8) (Nj:=some 3) (mr [5,1,2,3]) (mr [2,1,2,1,2,1,1,1]) rfl rfl rfl rfl (xv HT_.1 (by kernel_rfl)) (by decide) (by decide) (fun K hK=>?_) (fun K hK=>?_)
    ·skip;refine Kd.oX an (w0:=w) w.heap.size rfl (.const (.slice none 0 0)) (.tmp 7) 25 89 (.agg #[(.string ⟨#[]⟩),(.int .i64 0)]) 24 rfl Tryz.underlying25 iV rfl (by decide) (by omega) (.slice none 0 0) ([]:List (aa)) af _ _ _ (fun _=>True) (fun _=>False) rfl rfl ?aO ?aR (fun _ _ h=>h) (fun _ h=>h.elim) ?aF ?aB ?aS ?aL ?_
     (case aR=>exact mC (Kd.aw bW.1 HB.1))
     (case aB=>exact(aV HB.1 fK.1 gA.1))
     (case aF=>exact(fun _ _=>trivial))
     (case aO=>exact((Kd.nH _ _ _ _ (fun _=>True))))
     (case aS=>exact(bl (aV HB.1 fK.1 gA.1)))
     (case aL=>have:=rv.1;omega)
     intro tF w7 ho hb hg hat;rw[←Ux.1]at ho;replace di:=J (cM (g:=iK) (o:=.cells #[.slice aE ab.length av,.slice aq af.length ao,.slice aC aj.length aD,.int .i64 ak] 27 (0,0)) (mK di.1) hg (by simp[Value.ownBlock]));replace dR:=J (cM (g:=nO) (o:=.cells #[.slice none 0 0,.slice none 0 0,.slice none 0 0,.int .i64 0] 27 (0,0)) (mK dR.1) hg (by simp[Value.ownBlock]));replace HB:=J (hb);have jJ:=J (ho);clear ho hb hg hat;refine hK.out _ _ (fu di.1) (fun hHeld=>?_);clear hK K;refine cR 8 ?_;refine tD (i:=5) (j:=9) (Ni:=some 11) (Nj:=some 3) (mb 8 3) (mr [5,1,2,1,1,1]) rfl rfl rfl rfl (xv HT_.1 (by kernel_rfl)) (by decide) (by decide) (fun K hK=>?_) (fun K hK=>?_)
     ·skip;refine Kd.oX an (w0:=w) w.heap.size rfl (.const (.slice none 0 0)) (.tmp 10) 25 89 (.agg #[(.string ⟨#[]⟩),(.int .i64 0)]) 24 rfl Tryz.underlying25 iV rfl (by decide) (by omega) (.slice none 0 0) ([]:List (aa)) aj _ _ _ (fun k_=>some k_≠(tF:Value).ownBlock) (fun _=>False) rfl rfl ?aO ?aR (fun _ _ h=>h) (fun _ h=>h.elim) ?aF ?aB ?aS ?aL ?_
      (case aR=>exact mC (Kd.aw cD.1 HB.1))
      (case aB=>exact(aV HB.1 fK.1 gA.1))
      (case aF=>exact(fun k_ hk=>Kd.me (Kd.eK (mR jJ.1)) k_ hk))
      (case aO=>exact((Kd.nH _ _ _ _ (fun k_=>some k_≠(tF:Value).ownBlock))))
      (case aS=>exact(bl (aV HB.1 fK.1 gA.1)))
      (case aL=>have:=Bs.1;omega)
      intro Ie w8 ho hb hg hat;rw[←NB.1]at ho;replace di:=J (cM (g:=iK) (o:=.cells #[.slice aE ab.length av,.slice aq af.length ao,.slice aC aj.length aD,.int .i64 ak] 27 (0,0)) (mK di.1) hg (by simp[Value.ownBlock]));replace dR:=J (cM (g:=nO) (o:=.cells #[.slice none 0 0,.slice none 0 0,.slice none 0 0,.int .i64 0] 27 (0,0)) (mK dR.1) hg (by simp[Value.ownBlock]));replace jJ:=J (Kd.tb (Kd.NH (mR jJ.1)) hg hat);replace HB:=J (hb);have pQ:=J (ho);clear ho hb hg hat;obtain⟨Bh,vU,r6⟩:=Kd.b7 pQ.1
      (first|subst r6|(injection r6 with dB gr dC;have gu:=dB.symm;have gv:=dC.symm;clear dB gr dC;subst gu;subst gv))
      obtain⟨tK,oB,nN⟩:=Kd.b7 jJ.1
      (first|subst nN|(injection nN with dB gr dC;have gu:=dB.symm;have gv:=dC.symm;clear dB gr dC;subst gu;subst gv))
      refine hK.out _ _ (fu di.1) (fun hHeld=>?_);clear hK K;refine cR 11 ?_;refine aW 8 14 HT_.1 (mb 9 2) ?_;refine et 9 (some 3) HT_.1 (mb 10 1) (fun K hK=>?_);refine rM ?hg (N:=3) ?hd (cs:=#[.slice none 0 0,.slice none 0 0,.slice none 0 0,.int .i64 0]) (t:=27) ?hr ?_;(case hd=>rfl);(case hg=>rfl);(case hr=>first|(go_simp;done)|(go_simp;rfl));intro eN hg cC hbox hb;replace jJ:=J (Kd.bD (mR jJ.1) hb);replace pQ:=J (Kd.bD (mR pQ.1) hb);have eH:=J (hbox);have Bm:=mG hg (aV HB.1 fK.1 gA.1);have iG:=mG hg (aV HB.1 fK.1 gA.1);replace HB:=J (ar (aV HB.1 fK.1 gA.1) hb);have gX:=bI hg di.1;have pS:=bH hg di.1;replace di:=mB di hb;have oV:=bI hg dR.1;have qz:=bH hg dR.1;replace dR:=mB dR hb;clear hb hbox hg;refine hK.out _ _ (fu di.1) (fun hHeld=>?_);clear hK K;refine cR 3 ?_;exact zE mU (hCont (.slice tK jd.length oB,.slice Bh ka.length vU,eN) _ ⟨hHeld,(by refine mR ?_;exact Kd.aK jJ.1 (fun _ hk=>hk.2)),(mR pQ.1),(mK di.1),(mK dR.1),(mK eH.1),Bm.1,iG.1,gX.1,pS.1,oV.1,qz.1,(aU HB.1 fK.1 gA.1 iG.1)⟩)
     ·skip;refine rM ?hg (N:=3) ?hd (cs:=#[.slice none 0 0,.slice none 0 0,.slice none 0 0,.int .i64 0]) (t:=27) ?hr ?_;(case hd=>rfl);(case hg=>rfl);(case hr=>first|(go_simp;done)|(go_simp;rfl));intro eN hg w8 hbox hb;replace jJ:=J (Kd.bD (mR jJ.1) hb);have eH:=J (hbox);have Bm:=mG hg (aV HB.1 fK.1 gA.1);have iG:=mG hg (aV HB.1 fK.1 gA.1);replace HB:=J (ar (aV HB.1 fK.1 gA.1) hb);have gX:=bI hg di.1;have pS:=bH hg di.1;replace di:=mB di hb;have oV:=bI hg dR.1;have qz:=bH hg dR.1;replace dR:=mB dR hb;clear hb hbox hg;refine hK.out _ _ (fu di.1) (fun hHeld=>?_);clear hK K;refine cR 3 ?_;refine et 5 (some 11) HT_.1 (mr [8,1,1,1]) (fun K hK=>?_);refine Kd.oX an (w0:=w) w.heap.size rfl (.const (.slice none 0 0)) (.tmp 10) 25 89 (.agg #[(.string ⟨#[]⟩),(.int .i64 0)]) 24 rfl Tryz.underlying25 iV rfl (by decide) (by omega) (.slice none 0 0) ([]:List (aa)) aj _ _ _ (fun k_=>some k_≠(tF:Value).ownBlock) (fun _=>False) rfl rfl ?aO ?aR (fun _ _ h=>h) (fun _ h=>h.elim) ?aF ?aB ?aS ?aL ?_
      (case aR=>exact mC (Kd.aw cD.1 HB.1))
      (case aB=>exact(aU HB.1 fK.1 gA.1 iG.1))
      (case aF=>exact(fun k_ hk=>Kd.me (Kd.eK (mR jJ.1)) k_ hk))
      (case aO=>exact((Kd.nH _ _ _ _ (fun k_=>some k_≠(tF:Value).ownBlock))))
      (case aS=>exact(bl (aU HB.1 fK.1 gA.1 iG.1)))
      (case aL=>have:=Bs.1;omega)
      intro Ie w9 ho hb hg hat;rw[←NB.1]at ho;replace di:=J (cM (g:=iK) (o:=.cells #[.slice aE ab.length av,.slice aq af.length ao,.slice aC aj.length aD,.int .i64 ak] 27 (0,0)) (mK di.1) hg (by simp[Value.ownBlock]));replace dR:=J (cM (g:=nO) (o:=.cells #[.slice none 0 0,.slice none 0 0,.slice none 0 0,.int .i64 0] 27 (0,0)) (mK dR.1) hg (by simp[Value.ownBlock]));replace jJ:=J (Kd.tb (Kd.NH (mR jJ.1)) hg hat);replace eH:=J (cM (g:=eN) (o:=.cells #[.slice none 0 0,.slice none 0 0,.slice none 0 0,.int .i64 0] 27 (0,0)) (mK eH.1) hg (by simp[Value.ownBlock]));replace HB:=J (hb);have pQ:=J (ho);clear ho hb hg hat;obtain⟨tK,oB,nN⟩:=Kd.b7 pQ.1
      (first|subst nN|(injection nN with dB gr dC;have gu:=dB.symm;have gv:=dC.symm;clear dB gr dC;subst gu;subst gv))
      obtain⟨Bc,BN,yM⟩:=Kd.b7 jJ.1
      (first|subst yM|(injection yM with dB gr dC;have gu:=dB.symm;have gv:=dC.symm;clear dB gr dC;subst gu;subst gv))
      refine hK.out _ _ (fu di.1) (fun hHeld=>?_);clear hK K;refine cR 11 ?_;refine aW 8 14 HT_.1 (mb 10 1) ?_;exact zE mU (hCont (.slice Bc jd.length BN,.slice tK ka.length oB,eN) _ ⟨hHeld,(by refine mR ?_;exact Kd.aK jJ.1 (fun _ hk=>hk.2)),(mR pQ.1),(mK di.1),(mK dR.1),(mK eH.1),Bm.1,iG.1,gX.1,pS.1,oV.1,qz.1,(aU HB.1 fK.1 gA.1 iG.1)⟩)
    ·skip;refine rM ?hg (N:=3) ?hd (cs:=#[.slice none 0 0,.slice none 0 0,.slice none 0 0,.int .i64 0]) (t:=27) ?hr ?_;(case hd=>rfl);(case hg=>rfl);(case hr=>first|(go_simp;done)|(go_simp;rfl));intro eN hg w7 hbox hb;have eH:=J (hbox);have Bm:=mG hg (aV HB.1 fK.1 gA.1);have iG:=mG hg (aV HB.1 fK.1 gA.1);replace HB:=J (ar (aV HB.1 fK.1 gA.1) hb);have gX:=bI hg di.1;have pS:=bH hg di.1;replace di:=mB di hb;have oV:=bI hg dR.1;have qz:=bH hg dR.1;replace dR:=mB dR hb;clear hb hbox hg;refine hK.out _ _ (fu di.1) (fun hHeld=>?_);clear hK K;refine cR 3 ?_;refine et 2 (some 8) HT_.1 (mr [5,1,2,1,1,1]) (fun K hK=>?_);refine Kd.oX an (w0:=w) w.heap.size rfl (.const (.slice none 0 0)) (.tmp 7) 25 89 (.agg #[(.string ⟨#[]⟩),(.int .i64 0)]) 24 rfl Tryz.underlying25 iV rfl (by decide) (by omega) (.slice none 0 0) ([]:List (aa)) af _ _ _ (fun _=>True) (fun _=>False) rfl rfl ?aO ?aR (fun _ _ h=>h) (fun _ h=>h.elim) ?aF ?aB ?aS ?aL ?_
     (case aR=>exact mC (Kd.aw bW.1 HB.1))
     (case aB=>exact(aU HB.1 fK.1 gA.1 iG.1))
     (case aF=>exact(fun _ _=>trivial))
     (case aO=>exact((Kd.nH _ _ _ _ (fun _=>True))))
     (case aS=>exact(bl (aU HB.1 fK.1 gA.1 iG.1)))
     (case aL=>have:=rv.1;omega)
     intro tF w8 ho hb hg hat;rw[←Ux.1]at ho;replace di:=J (cM (g:=iK) (o:=.cells #[.slice aE ab.length av,.slice aq af.length ao,.slice aC aj.length aD,.int .i64 ak] 27 (0,0)) (mK di.1) hg (by simp[Value.ownBlock]));replace dR:=J (cM (g:=nO) (o:=.cells #[.slice none 0 0,.slice none 0 0,.slice none 0 0,.int .i64 0] 27 (0,0)) (mK dR.1) hg (by simp[Value.ownBlock]));replace eH:=J (cM (g:=eN) (o:=.cells #[.slice none 0 0,.slice none 0 0,.slice none 0 0,.int .i64 0] 27 (0,0)) (mK eH.1) hg (by simp[Value.ownBlock]));replace HB:=J (hb);have jJ:=J (ho);clear ho hb hg hat;refine hK.out _ _ (fu di.1) (fun hHeld=>?_);clear hK K;refine cR 8 ?_;refine et 5 (some 11) HT_.1 (mr [8,1,1,1]) (fun K hK=>?_);refine Kd.oX an (w0:=w) w.heap.size rfl (.const (.slice none 0 0)) (.tmp 10) 25 89 (.agg #[(.string ⟨#[]⟩),(.int .i64 0)]) 24 rfl Tryz.underlying25 iV rfl (by decide) (by omega) (.slice none 0 0) ([]:List (aa)) aj _ _ _ (fun k_=>some k_≠(tF:Value).ownBlock) (fun _=>False) rfl rfl ?aO ?aR (fun _ _ h=>h) (fun _ h=>h.elim) ?aF ?aB ?aS ?aL ?_
     (case aR=>exact mC (Kd.aw cD.1 HB.1))
     (case aB=>exact(aU HB.1 fK.1 gA.1 iG.1))
     (case aF=>exact(fun k_ hk=>Kd.me (Kd.eK (mR jJ.1)) k_ hk))
     (case aO=>exact((Kd.nH _ _ _ _ (fun k_=>some k_≠(tF:Value).ownBlock))))
     (case aS=>exact(bl (aU HB.1 fK.1 gA.1 iG.1)))
     (case aL=>have:=Bs.1;omega)
     intro Ie w9 ho hb hg hat;rw[←NB.1]at ho;replace di:=J (cM (g:=iK) (o:=.cells #[.slice aE ab.length av,.slice aq af.length ao,.slice aC aj.length aD,.int .i64 ak] 27 (0,0)) (mK di.1) hg (by simp[Value.ownBlock]));replace dR:=J (cM (g:=nO) (o:=.cells #[.slice none 0 0,.slice none 0 0,.slice none 0 0,.int .i64 0] 27 (0,0)) (mK dR.1) hg (by simp[Value.ownBlock]));replace eH:=J (cM (g:=eN) (o:=.cells #[.slice none 0 0,.slice none 0 0,.slice none 0 0,.int .i64 0] 27 (0,0)) (mK eH.1) hg (by simp[Value.ownBlock]));replace jJ:=J (Kd.tb (Kd.NH (mR jJ.1)) hg hat);replace HB:=J (hb);have pQ:=J (ho);clear ho hb hg hat;obtain⟨tK,oB,nN⟩:=Kd.b7 pQ.1
     (first|subst nN|(injection nN with dB gr dC;have gu:=dB.symm;have gv:=dC.symm;clear dB gr dC;subst gu;subst gv))
     obtain⟨Bc,BN,yM⟩:=Kd.b7 jJ.1
     (first|subst yM|(injection yM with dB gr dC;have gu:=dB.symm;have gv:=dC.symm;clear dB gr dC;subst gu;subst gv))
     refine hK.out _ _ (fu di.1) (fun hHeld=>?_);clear hK K;refine cR 11 ?_;refine aW 8 14 HT_.1 (mb 10 1) ?_;exact zE mU (hCont (.slice Bc jd.length BN,.slice tK ka.length oB,eN) _ ⟨hHeld,(by refine mR ?_;exact Kd.aK jJ.1 (fun _ hk=>hk.2)),(mR pQ.1),(mK di.1),(mK dR.1),(mK eH.1),Bm.1,iG.1,gX.1,pS.1,oV.1,qz.1,(aU HB.1 fK.1 gA.1 iG.1)⟩)
   rintro⟨tF,Ie,eN⟩ dK ⟨hS_,fg,eU,eV,fh,gQ,jQ,jR,jS,jT,jU,kX,sb⟩;have jJ:Aside0 (Kd.R an 89 dK w.heap.size (fun k_=>some k_≠(Ie:Value).ownBlock) tF jd):=⟨fg⟩;have pQ:Aside0 (Kd.R an 89 dK w.heap.size (fun k_=>some k_≠(tF:Value).ownBlock) Ie ka):=⟨eU⟩;replace di:Aside0 (dK.heap[iK]? = some (.cells #[.slice aE ab.length av,.slice aq af.length ao,.slice aC aj.length aD,.int .i64 ak] 27 (0,0))):=⟨eV⟩;replace dR:Aside0 (dK.heap[nO]? = some (.cells #[.slice none 0 0,.slice none 0 0,.slice none 0 0,.int .i64 0] 27 (0,0))):=⟨fh⟩;have eH:Aside0 (dK.heap[eN]? = some (.cells #[.slice none 0 0,.slice none 0 0,.slice none 0 0,.int .i64 0] 27 (0,0))):=⟨gQ⟩;have Bm:Aside0 (w.heap.size≤eN):=⟨jQ⟩;have iG:Aside0 (w.heap.size≤eN):=⟨jR⟩;have gX:Aside0 (iK≠eN):=⟨jS⟩;have pS:Aside0 (eN≠iK):=⟨jT⟩;have oV:Aside0 (nO≠eN):=⟨jU⟩;have qz:Aside0 (eN≠nO):=⟨kX⟩;replace HB:Aside0 (Below w.heap.size w dK):=⟨sb⟩;clear fg eU eV fh gQ jQ jR jS jT jU kX sb;have hHeld:dK.cell? ⟨iK,0,none⟩=some (.slice aE ab.length av)∧dK.cell? ⟨iK,1,none⟩=some (.slice aq af.length ao)∧dK.cell? ⟨iK,2,none⟩=some (.slice aC aj.length aD)∧dK.cell? ⟨iK,3,none⟩=some (.int .i64 ak):=hS_;obtain⟨fP,fU,JE⟩:=Kd.b7 pQ.1
   (first|subst JE|(injection JE with dB gr dC;have gu:=dB.symm;have gv:=dC.symm;clear dB gr dC;subst gu;subst gv))
   obtain⟨jG,jO,pY⟩:=Kd.b7 jJ.1
   (first|subst pY|(injection pY with dB gr dC;have gu:=dB.symm;have gv:=dC.symm;clear dB gr dC;subst gu;subst gv))
   refine pk ?_;refine et 10 none HT_.1 (mb 11 0) (fun K hK=>?_);have axm:dK.cell? ⟨eN,0,none⟩=some (.slice none 0 0):=mZ eH.1 0;have asQ:=eA eH.1 0;have aw2:=gX.1;have aw3:=oV.1;have avx:=pS.1;have avy:=qz.1;have axn:dK.cell? ⟨eN,1,none⟩=some (.slice none 0 0):=mZ eH.1 1;have asR:=eA eH.1 1;have aw4:=gX.1;have aw5:=oV.1;have avz:=pS.1;have avA:=qz.1;have axo:dK.cell? ⟨eN,2,none⟩=some (.slice none 0 0):=mZ eH.1 2;have asS:=eA eH.1 2;have aw6:=gX.1;have aw7:=oV.1;have avB:=pS.1;have avC:=qz.1;have axp:dK.cell? ⟨eN,3,none⟩=some (.int .i64 0):=mZ eH.1 3;have asT:=eA eH.1 3;have aw8:=gX.1;have aw9:=oV.1;have avD:=pS.1;have avE:=qz.1;refine uR (w1:=?_) (by rfl) rfl ?_ ?_
   rotate_left
   ·go_simp;rfl
   refine hK.out _ _ ⟨((cell_far (p:=⟨eN,_,none⟩) gX.1 _).trans (((cell_far (p:=⟨eN,_,none⟩) gX.1 _).trans (((cell_far (p:=⟨eN,_,none⟩) gX.1 _).trans (((cell_far (p:=⟨eN,_,none⟩) gX.1 _).trans (hHeld.1)))))))),((cell_far (p:=⟨eN,_,none⟩) gX.1 _).trans (((cell_far (p:=⟨eN,_,none⟩) gX.1 _).trans (((cell_far (p:=⟨eN,_,none⟩) gX.1 _).trans (((cell_far (p:=⟨eN,_,none⟩) gX.1 _).trans (hHeld.2.1)))))))),((cell_far (p:=⟨eN,_,none⟩) gX.1 _).trans (((cell_far (p:=⟨eN,_,none⟩) gX.1 _).trans (((cell_far (p:=⟨eN,_,none⟩) gX.1 _).trans (((cell_far (p:=⟨eN,_,none⟩) gX.1 _).trans (hHeld.2.2.1)))))))),((cell_far (p:=⟨eN,_,none⟩) gX.1 _).trans (((cell_far (p:=⟨eN,_,none⟩) gX.1 _).trans (((cell_far (p:=⟨eN,_,none⟩) gX.1 _).trans (((cell_far (p:=⟨eN,_,none⟩) gX.1 _).trans (hHeld.2.2.2))))))))⟩ (fun hHeld=>?_);clear hK K;refine fA (iS HT_.1 (by kernel_rfl)) ?_;have XO:=Uk.1;have XS:=Ul.1;have XP:=gX.1;have XT:=pS.1;obtain⟨J4,J5,PT,WQ,Km,Kn,Qk,Xh⟩:=bk di.1
   try go_wp2
   go_loopg [18] k (fun kq v18 w'=>∃(fB:Int) (qi:List (al)) (u190000:Value),v18 = .int .i64 fB∧Aside0 (fi.U kq ab (ab.length:Int) fB qi jd ka ak=some (r1,r2,r3,r4))∧Aside0 (kq≤k)∧Aside0 (Kd.S bc 63 w' w.heap.size (fun _=>True) u190000 qi)∧Aside0 (Kd.R an 89 w' w.heap.size (fun k_=>some k_≠((.slice fP ka.length fU):Value).ownBlock) (.slice jG jd.length jO) jd)∧Aside0 (Kd.R an 89 w' w.heap.size (fun k_=>some k_≠((.slice jG jd.length jO):Value).ownBlock) (.slice fP ka.length fU) ka)∧Aside0 (w'.heap[iK]? = some (.cells #[(.slice aE ab.length av),(.slice aq af.length ao),(.slice aC aj.length aD),.int .i64 ak] 27 (0,0)))∧Aside0 (w'.heap[nO]? = some (.cells #[(.slice none 0 0),(.slice none 0 0),(.slice none 0 0),.int .i64 0] 27 (0,0)))∧Aside0 (w'.heap[eN]? = some (.cells #[u190000,(.slice jG jd.length jO),(.slice fP ka.length fU),.int .i64 ak] 27 (0,0)))∧Aside0 (Below w.heap.size w w'))
   case atStart=>exact⟨(0),(([]:List (al))),(.slice none 0 0),mE,H',⟨Nat.le_refl _⟩,⟨by first|exact Kd.rG _ _ _ _ _|exact Kd.N_nil _ _ _ _ _|exact Kd.V_nil _ _ _ _ _|exact Kd.Q_nil _ _ _ _ _|exact Kd.nH _ _ _ _ _⟩,⟨by refine mR ?_;exact Kd.aK (dv (Kd.bM jJ.1 eH.1 (by decide))) (fun _ hk=>hk.1)⟩,⟨by refine mR ?_;exact Kd.aK (dv (Kd.bM pQ.1 eH.1 (by decide))) (fun _ hk=>hk.1)⟩,⟨dD gX.1 di.1⟩,⟨dD oV.1 dR.1⟩,⟨by refine mK ?_;refine bf (cs:=#[.slice none 0 0,.slice jG jd.length jO,.slice fP ka.length fU,.int .i64 0]) ?_ 3 _ rfl;refine mK ?_;refine bf (cs:=#[.slice none 0 0,.slice jG jd.length jO,.slice none 0 0,.int .i64 0]) ?_ 2 _ rfl;refine mK ?_;refine bf (cs:=#[.slice none 0 0,.slice none 0 0,.slice none 0 0,.int .i64 0]) ?_ 1 _ rfl;refine mK ?_;refine bf (cs:=#[.slice none 0 0,.slice none 0 0,.slice none 0 0,.int .i64 0]) ?_ 0 _ rfl;refine mK ?_;exact eH.1⟩,⟨(aU HB.1 fK.1 gA.1 iG.1)⟩⟩
   case round=>
    clear H'
    try clear c2
    try clear c3
    try clear J4
    try clear J5
    try clear PT
    try clear WQ
    try clear Km
    try clear Kn
    try clear Qk
    try clear Xh
    obtain⟨fB,qi,u190000,rfl,HA,aQ,lr,rq,rr,di,dR,eH,HB⟩:=hrel;cases gk with
    |zero=>exact absurd HA.1 (by simp[fi.U])
    |succ k1=>
     have H:=HA.1;clear HA;simp only[fi.U]at H;by_cases rQ:fB<(ab.length:Int)
     ·rw[if_pos rQ]at H;have Vq:=decide_eq_true rQ;clear rQ;by_cases kt:0≤fB
      ·rw[if_pos kt]at H;have Oo:=decide_eq_true kt;clear kt;by_cases lE:fB<(ab.length:Int)
       ·rw[if_pos lE]at H;have afa:=decide_eq_true lE;clear lE;replace H:=Option.bind_eq_some_iff.mp H;obtain⟨t192,S9,H⟩:=H;replace H:(if qi.length<3518437208883 then (fi.U k1 ab (ab.length:Int) (wrap64 (fB+1)) (qi++[(⟨(ai ab fB).f0,t192,(ai ab fB).f2⟩:al)]) jd ka ak) else (none))=some (r1,r2,r3,r4):=H;have A25:=J S9;clear S9;by_cases o7:qi.length<3518437208883
        ·rw[if_pos o7]at H;have Nf:=J o7;clear o7;obtain⟨Db,GG⟩:∃y_:List (al),y_=(qi++[(⟨(ai ab fB).f0,t192,(ai ab fB).f2⟩:al)]):=⟨_,rfl⟩;replace H:(fi.U k1 ab (ab.length:Int) (wrap64 (fB+1)) Db jd ka ak)=some (r1,r2,r3,r4):=by first|(rw[GG];with_reducible exact H)|(have aM:=(Option.bind_some _ _).symm.trans H;rw[GG];with_reducible exact aM)|(have aM:=(Option.bind_some _ _).symm.trans H;with_reducible exact aM)|with_reducible exact H|(rw[GG];exact H)|exact H
         have adJ:=J GG;clear GG;have H':=J H;clear H;have Ro:0≤(fB:Int):=mD;have RP:fB<(ab.length:Int):=mD;obtain⟨NT,Iq,Jd,afW,Yd,Ye,Yf,XK,XC⟩:=hY ca.1 fB Ro RP;cases afW
         replace Yd:=mX HB.1 Yd;replace Ye:=mX HB.1 Ye;replace Yf:=mX HB.1 Yf;have acf:=J XC;have abM:=J XK;clear XC XK;replace Ro:=eq_true Ro;replace RP:=eq_true RP;go_wp2_with (first|((with_reducible refine aH (N:=5) rfl ?_);refine aT 5 #[.int .i64 0,.slice none 0 0,.int .i64 0] 63 ?_;intro nP hg lN hbox hb;replace lr:=J (Kd.ly (Kd.U1 (dm lr.1) nP (Nat.le_of_eq hg.symm)) hb);replace rq:=J (Kd.bD (mR rq.1) hb);replace rr:=J (Kd.bD (mR rr.1) hb);have lR:=J (hbox);have aoS:=mG hg (aU HB.1 fK.1 gA.1 iG.1);have xL:=mG hg (aU HB.1 fK.1 gA.1 iG.1);replace HB:=J (ar (aU HB.1 fK.1 gA.1 iG.1) hb);have No:=bI hg di.1;have acB:=bH hg di.1;replace di:=mB di hb;have Np:=bI hg dR.1;have acC:=bH hg dR.1;replace dR:=mB dR hb;have Nq:=bI hg eH.1;have acD:=bH hg eH.1;replace eH:=mB eH hb;clear hb hbox hg;have akl:=acB.1;have akB:=No.1;have akm:=acC.1;have akC:=Np.1;have av4:=acD.1;have awF:=Nq.1;obtain⟨ahJ,ahK,ahL,ajd,aje,ajf⟩:=ib lR.1)|((with_reducible refine aJ (f:=36) rfl ?_);refine bA 24 Tryz.func36 #[.slice Iq ((ai ab fB).f1).length Jd] ?_;(with_reducible refine(wX.calls _ _ ((ai ab fB).f1) t192 _ ?az ?aA A25.1).mono ?_);(case az=>exact Kd.aw acf.1 (eY HB.1 fK.1 gA.1 iG.1 xL.1));(case aA=>exact abM.1);rintro e w32 ⟨v193,rfl,bq,hb⟩;refine⟨_,rfl,?_⟩;replace lr:=J (Kd.yq (by refine dm ?_;exact(Kd.dj (Y4 (Kd.dj lr.1 (fun k_ hk=>(⟨hk,hk.2⟩:_∧k_≠nP)))) (fun _ h_=>h_.1))) (Kd.fF bq) hb);replace rq:=J (Kd.bD (by refine mR ?_;exact(Kd.aK (ph (Kd.bM rq.1 lR.1 (by decide))) (fun _ h_=>h_.1))) hb);replace rr:=J (Kd.bD (by refine mR ?_;exact(Kd.aK (ph (Kd.bM rr.1 lR.1 (by decide))) (fun _ h_=>h_.1))) hb);have yc:=J (Kd.cg bq (bl (eY HB.1 fK.1 gA.1 iG.1 xL.1)));replace di:=J (bg (g:=iK) (o:=.cells #[.slice (some NT) ab.length av,.slice aq af.length ao,.slice aC aj.length aD,.int .i64 ak] 27 (0,0)) (dD No.1 di.1) hb);replace dR:=J (bg (g:=nO) (o:=.cells #[.slice none 0 0,.slice none 0 0,.slice none 0 0,.int .i64 0] 27 (0,0)) (dD Np.1 dR.1) hb);replace eH:=J (bg (g:=eN) (o:=.cells #[u190000,.slice jG jd.length jO,.slice fP ka.length fU,.int .i64 ak] 27 (0,0)) (dD Nq.1 eH.1) hb);replace lR:=J (bg (g:=nP) (o:=.cells #[.int .i64 ((ai ab fB).f0),.slice Iq ((ai ab fB).f1).length Jd,.int .i64 ((ai ab fB).f2)] 63 (0,0)) (by refine mK ?_;refine bf (cs:=#[.int .i64 ((ai ab fB).f0),.slice Iq ((ai ab fB).f1).length Jd,.int .i64 0]) ?_ 2 _ rfl;refine mK ?_;refine bf (cs:=#[.int .i64 ((ai ab fB).f0),.slice none 0 0,.int .i64 0]) ?_ 1 _ rfl;refine mK ?_;refine bf (cs:=#[.int .i64 0,.slice none 0 0,.int .i64 0]) ?_ 0 _ rfl;refine mK ?_;exact lR.1) hb);replace HB:=J (ar (eY HB.1 fK.1 gA.1 iG.1 xL.1) hb);(try clear hb);(try clear bq);obtain⟨nA,nM,O9⟩:=Kd.b7 yc.1;subst O9;obtain⟨W0,W3,W4,Xs,Xt,Xu⟩:=ib lR.1)|((with_reducible refine ej (t:=22) (p:=25) rfl ?_);refine uS (t:=22) (p:=25) (v:=?ayU) (w1:=(w32.setCell ⟨nP,1,none⟩ (.slice nA t192.length nM))) ?hg ?ho ?hn ?hr ?_;(case ho=>rfl);(case hg=>rfl);(case hn=>rfl);(case hr=>first|(go_simp;done)|(go_simp;rfl));intro j8 hw;have xh:Aside0 (Kd.S bc 63 j8 w.heap.size (fun k_=>some k_≠(.slice nA t192.length nM:Value).ownBlock∧k_≠nP) u190000 qi):=⟨(by rw[hw];exact(by refine dm ?_;exact Kd.dj (Kd.ox (p:=⟨nP,1,none⟩) (Kd.dj lr.1 (fun k_ hk=>(⟨hk,hk.1.2⟩:_∧k_≠nP))) (fun _ hk=>hk.2) (.slice nA t192.length nM)) (fun _ hk=>⟨hk.1.2,hk.1.1.2⟩)))⟩;have xi:Aside0 (Kd.R an 89 j8 w.heap.size (fun k_=>some k_≠(.slice fP ka.length fU:Value).ownBlock) (.slice jG jd.length jO) jd):=⟨(by rw[hw];exact(by refine mR ?_;exact Kd.aK (Kd.fG (p:=⟨nP,1,none⟩) (Kd.bM rq.1 lR.1 (by decide)) (fun _ hk=>hk.2) (.slice nA t192.length nM)) (fun _ hk=>hk.1)))⟩;have xj:Aside0 (Kd.R an 89 j8 w.heap.size (fun k_=>some k_≠(.slice jG jd.length jO:Value).ownBlock) (.slice fP ka.length fU) ka):=⟨(by rw[hw];exact(by refine mR ?_;exact Kd.aK (Kd.fG (p:=⟨nP,1,none⟩) (Kd.bM rr.1 lR.1 (by decide)) (fun _ hk=>hk.2) (.slice nA t192.length nM)) (fun _ hk=>hk.1)))⟩;have xk:Aside0 (Kd.R (Kd.int .u8) 5 j8 w.heap.size (fun _=>True) (.slice nA t192.length nM) t192):=⟨(by rw[hw];exact(by refine mR ?_;exact Kd.aK (Kd.fG (p:=⟨nP,1,none⟩) (Kd.bM yc.1 lR.1 (by decide)) (fun _ hk=>hk.2) (.slice nA t192.length nM)) (fun _ hk=>trivial)))⟩;have xl:Aside0 (j8.heap[iK]? = some (.cells #[.slice (some NT) ab.length av,.slice aq af.length ao,.slice aC aj.length aD,.int .i64 ak] 27 (0,0))):=⟨(by rw[hw];exact(dD No.1 di.1))⟩;have xm:Aside0 (j8.heap[nO]? = some (.cells #[.slice none 0 0,.slice none 0 0,.slice none 0 0,.int .i64 0] 27 (0,0))):=⟨(by rw[hw];exact(dD Np.1 dR.1))⟩;have xn:Aside0 (j8.heap[eN]? = some (.cells #[u190000,.slice jG jd.length jO,.slice fP ka.length fU,.int .i64 ak] 27 (0,0))):=⟨(by rw[hw];exact(dD Nq.1 eH.1))⟩;have Zg:Aside0 (j8.heap[nP]? = some (.cells #[.int .i64 ((ai ab fB).f0),.slice nA t192.length nM,.int .i64 ((ai ab fB).f2)] 63 (0,0))):=⟨(by rw[hw];exact(by refine mK ?_;refine bf (cs:=#[.int .i64 ((ai ab fB).f0),.slice Iq ((ai ab fB).f1).length Jd,.int .i64 ((ai ab fB).f2)]) ?_ 1 _ rfl;refine mK ?_;exact lR.1))⟩;have Zh:Aside0 (Below w.heap.size w j8):=⟨(by rw[hw];exact(eY HB.1 fK.1 gA.1 iG.1 xL.1))⟩;clear hw;clear lr;clear rq;clear rr;clear yc;clear di;clear dR;clear eH;clear lR;clear HB;have lr:=xh;have rq:=xi;have rr:=xj;have yc:=xk;have di:=xl;have dR:=xm;have eH:=xn;have lR:=Zg;have HB:=Zh;clear xh xi xj xk xl xm xn Zg Zh;have akn:=pS.1;have akD:=gX.1;have ako:=qz.1;have akE:=oV.1;obtain⟨ahY,ahZ,ah0,ah1,ajs,ajt,aju,ajv⟩:=bk eH.1;obtain⟨arx,ary,arz,at8,at9,aua⟩:=ib lR.1)|((with_reducible refine kv (b:=.append) (xs:=#[.tmp 27,.tmp 29]) rfl ?_);at_builtin;refine Kd.I0 bc (w0:=w) w.heap.size rfl (.tmp 27) (.tmp 29) 24 63 (.agg #[(.int .i64 0),(.slice none 0 0),(.int .i64 0)]) 40 rfl Tryz.underlying24 wY rfl (by decide) (by omega) u190000 qi (⟨(ai ab fB).f0,t192,(ai ab fB).f2⟩:al) [.int .i64 ((ai ab fB).f0),.slice nA t192.length nM,.int .i64 ((ai ab fB).f2)] (fun k_=>k_≠nP) (fun k_=>some k_=(.slice nA t192.length nM:Value).ownBlock) rfl rfl ?aP (fun k_ hk_=>((Kd.aK (ok':=fun k_=>((fun k_=>k_≠nP)) k_∧some k_≠(u190000:Value).ownBlock) (Kd.bM (Kd.tc (yc.1) (Kd.mJ lr.1) (by decide)) lR.1 (by decide)) (fun k_ hk=>⟨hk.2,hk.1.2⟩))).1 k_ hk_.symm) ?aF ?aO ?aB ?aS ?aL ?_;(case aP=>exact qb _ _ _ (⟨(ai ab fB).f0,t192,(ai ab fB).f2⟩:al) (Kd.aK (Kd.kf rfl (Kd.aK (ok':=fun k_=>((fun k_=>k_≠nP)) k_∧some k_≠(u190000:Value).ownBlock) (Kd.bM (Kd.tc (yc.1) (Kd.mJ lr.1) (by decide)) lR.1 (by decide)) (fun k_ hk=>⟨hk.2,hk.1.2⟩))) (fun _ h_=>h_)));(case aB=>exact(eY HB.1 fK.1 gA.1 iG.1 xL.1));(case aF=>exact(fun k_ hk=>Kd.gD (g:=nP) (o:=.cells #[.int .i64 ((ai ab fB).f0),.slice nA t192.length nM,.int .i64 ((ai ab fB).f2)] 63 (0,0)) (mK lR.1) k_ hk));(case aO=>exact(by refine dm ?_;exact Kd.dj lr.1 (fun k_ hk=>⟨hk.2,fun e_=>hk.1 e_⟩)));(case aS=>exact(bl (eY HB.1 fK.1 gA.1 iG.1 xL.1)));(case aL=>have:=Nf.1;omega);intro v196 w40 ho hb hg hat;rw[←adJ.1]at ho;replace rq:=J (Kd.td (mR rq.1) (Kd.mJ (dm lr.1)) (by decide) hg);replace rr:=J (Kd.td (mR rr.1) (Kd.mJ (dm lr.1)) (by decide) hg);replace di:=J (cM (g:=iK) (o:=.cells #[.slice (some NT) ab.length av,.slice aq af.length ao,.slice aC aj.length aD,.int .i64 ak] 27 (0,0)) (mK di.1) hg (Kd.ue lr.1 di.1 (by decide)));replace dR:=J (cM (g:=nO) (o:=.cells #[.slice none 0 0,.slice none 0 0,.slice none 0 0,.int .i64 0] 27 (0,0)) (mK dR.1) hg (Kd.ue lr.1 dR.1 (by decide)));replace eH:=J (cM (g:=eN) (o:=.cells #[u190000,.slice jG jd.length jO,.slice fP ka.length fU,.int .i64 ak] 27 (0,0)) (mK eH.1) hg (Kd.ue lr.1 eH.1 (by decide)));replace lR:=J (cM (g:=nP) (o:=.cells #[.int .i64 ((ai ab fB).f0),.slice nA t192.length nM,.int .i64 ((ai ab fB).f2)] 63 (0,0)) (mK lR.1) hg (Kd.UZ lr.1 (fun _ hk=>hk.2)));replace HB:=J (hb);have TF:=J (ho);clear lr;clear yc;clear ho hb hg hat;obtain⟨pE,pW,Pa⟩:=Kd.jv TF.1;subst Pa;obtain⟨ah6,ah7,ah8,ah9,ajA,ajB,ajC,ajD⟩:=bk eH.1))
         go_roundg k1
         case measure=>have:=aQ.1;omega
         case rel=>exact⟨(wrap64 (fB+1)),(Db),(.slice pE Db.length pW),mE,H',⟨by have:=aQ.1;omega⟩,⟨by refine dm ?_;exact Kd.dj (Kd.ox (p:=⟨eN,0,none⟩) (Kd.jL TF.1 eH.1 (by decide)) (fun _ hk=>hk.2) (.slice pE Db.length pW)) (fun _ hk=>trivial)⟩,⟨by refine mR ?_;exact Kd.aK (Kd.fG (p:=⟨eN,0,none⟩) (Kd.bM rq.1 eH.1 (by decide)) (fun _ hk=>hk.2) (.slice pE Db.length pW)) (fun _ hk=>hk.1)⟩,⟨by refine mR ?_;exact Kd.aK (Kd.fG (p:=⟨eN,0,none⟩) (Kd.bM rr.1 eH.1 (by decide)) (fun _ hk=>hk.2) (.slice pE Db.length pW)) (fun _ hk=>hk.1)⟩,⟨dD gX.1 di.1⟩,⟨dD oV.1 dR.1⟩,⟨by refine mK ?_;refine bf (cs:=#[u190000,.slice jG jd.length jO,.slice fP ka.length fU,.int .i64 ak]) ?_ 0 _ rfl;refine mK ?_;exact eH.1⟩,⟨(eY HB.1 fK.1 gA.1 iG.1 xL.1)⟩⟩
        ·rw[if_neg o7]at H;exact absurd H (by simp)
       ·rw[if_neg lE]at H;exact absurd H (by simp)
      ·rw[if_neg kt]at H;exact absurd H (by simp)
     ·rw[if_neg rQ]at H;have Vq:=decide_eq_false rQ;clear rQ;simp only[Option.some.injEq,Prod.mk.injEq]at H;obtain⟨rfl,rfl,rfl,rfl⟩:=H;have akq:=pS.1;have akG:=gX.1;have akr:=qz.1;have akH:=oV.1;obtain⟨aij,aik,ail,aim,ajM,ajN,ajO,ajP⟩:=bk eH.1;obtain⟨tL,uk,Pc⟩:=Kd.jv lr.1;subst Pc;have XR:=Ul.1;have XV:=Uk.1;obtain⟨E5,E6,E7,E8,Ff,Fg,Fh,Fi⟩:=bk dR.1;go_wp2;refine bodyPost_ret (results_cell_row rfl _ _ nO 27 #[.slice tL qi.length uk,.slice jG jd.length jO,.slice fP ka.length fU,.int .i64 ak] (0,0) _ rfl (by refine mK ?_;refine bf (cs:=#[.slice tL qi.length uk,.slice jG jd.length jO,.slice fP ka.length fU,.int .i64 0]) ?_ 3 _ rfl;refine mK ?_;refine bf (cs:=#[.slice tL qi.length uk,.slice jG jd.length jO,.slice none 0 0,.int .i64 0]) ?_ 2 _ rfl;refine mK ?_;refine bf (cs:=#[.slice tL qi.length uk,.slice none 0 0,.slice none 0 0,.int .i64 0]) ?_ 1 _ rfl;refine mK ?_;refine bf (cs:=#[.slice none 0 0,.slice none 0 0,.slice none 0 0,.int .i64 0]) ?_ 0 _ rfl;refine mK ?_;exact dR.1) Tryz.underlying27 rfl (by kernel_rfl)) rfl ?_;exact⟨_,_,_,bN,by refine dm ?_;exact Kd.dj (pj (Kd.jL lr.1 dR.1 (by decide))) (fun _ hk=>trivial),by refine mR ?_;exact Kd.aK (dv (Kd.bM rq.1 dR.1 (by decide))) (fun _ hk=>hk.1),by refine mR ?_;exact Kd.aK (dv (Kd.bM rr.1 dR.1 (by decide))) (fun _ hk=>hk.1),(aU HB.1 fK.1 gA.1 iG.1)⟩
  ·rw[if_neg c3]at H;exact absurd H (by simp)
 ·rw[if_neg c2]at H;exact absurd H (by simp)
end Go.Proofs.YtingkpnoiekliaaGreat.MZ
end
