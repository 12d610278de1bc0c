/- Walks and plain laws, put together: no condition of their own. -/
import Derived.Test.YtingkpnoiekliaaGreatG2
import Derived.Test.YtingkpnoiekliaaGreatG1
import Derived.Test.YtingkpnoiekliaaGreatVAll
section
namespace Go.Proofs.YtingkpnoiekliaaGreat.MZ
open Go.RowKit Go.Proofs.YtingkpnoiekliaaGreatW.PrintWords Go.Proofs.YtingkpnoiekliaaGreatW.PrintLast Go.Proofs.YtingkpnoiekliaaGreatW.PrintMore Go.Proofs.YtingkpnoiekliaaGreat.MWords
set_option linter.unusedVariables false
set_option linter.unusedSimpArgs false
set_option maxHeartbeats 8000000 in
set_option maxRecDepth 100000 in
theorem Ua {w : World} {cs : Array Value} {d : Dk} {A : Option Addr} {c : Nat} {l : List ab} (hd : cH cs d w) (h0 : d.f0.length ≤ 1048576) (hr : Kd.C ak w A l.length l) (hc : l.length ≤ c) (hl : l.length ≤ 1048576) (hz : ∀ e ∈ l, e.f0.size ≤ 9223372036854775807) : Calls Tryz.prog 40 #[.agg cs, .slice A l.length c] w (fun e w' => e = .returned (.bool (iB d.f0 l)) ∧ Below w.heap.size w w') := by
  have HS := St.start w (fun _ => False)
  have h4 := hd.size
  have hu := Tryz.underlying89
  obtain ⟨r, er⟩ : ∃ r, iB d.f0 l = r := ⟨_, rfl⟩
  rw [er]
  go_enter Tryz.func40, Tryz.ntmps40
  go_wp2_with (first | ((with_reducible refine aM (N := 2) rfl ?_); refine bg 2 cs 27 ?_; intro g2 hg w1 hx hb; replace HS := HS.box hg hx hb h4; clear hb hx hg))
  go_loopg [9] l.length (fun kq v9 w' => ∃ (i : Nat), v9 = .int .i64 (i : Int) ∧ Aside0 (kq + i = l.length) ∧ Aside0 (fl (nr d.f0 l) (fun _ => false) (decide ((l.length : Int) ≤ 30)) i kq = r) ∧ St w (fun _ => False) [(g2, cs)] (fun _ => True) w')
  case atStart => exact ⟨0, rfl, ⟨rfl⟩, ⟨er⟩, HS⟩
  case round =>
    clear HS
    obtain ⟨i, rfl, hi, hR, HS⟩ := hrel
    cases gk with
    | zero =>
      have jo : decide ((i : Int) < (l.length : Int)) = false := decide_eq_false (by have := hi.1; omega)
      have q3 : ¬ i < l.length := by have := hi.1; omega
      have q4 := decide_eq_false q3
      have uR : decide ((l.length : Int) ≤ 30) = r := hR.1
      go_wp2
      go_ret
      exact ⟨rfl, HS.be⟩
    | succ k1 =>
      have hil : i < l.length := by have := hi.1; omega
      have pE : decide ((i : Int) < (l.length : Int)) = true := decide_eq_true (by omega)
      have q1 := eq_true (show (0 : Int) ≤ (i : Int) by omega)
      have q2 := eq_true (show (i : Int) < (l.length : Int) by omega)
      obtain ⟨ad, rfl, x0, x1⟩ := jw (Kd.az hr HS.be) (i : Int) (by omega) (by omega)
      rw [Int.toNat_natCast] at x0 x1
      obtain ⟨e, he⟩ : ∃ e, aK l (i : Int) = e := ⟨_, rfl⟩
      have jo := hz _ (JZ hil)
      rw [he] at x0 x1 jo
      go_upto_region 4 with (first | ((with_reducible refine aM (N := 6) rfl ?_); refine bg 6 #[.string (⟨#[]⟩ : ByteArray), .int .i64 0] 89 ?_; intro g6 hg w1 hx hb; have WB := Nat.le_trans HS.be.size (Nat.le_of_eq hg.symm); have hn6 := HS.fresh hg; replace HS := HS.below hb; replace x0 := mX hb x0; replace x1 := mX hb x1; clear hb hg; obtain ⟨y0, y1, y2, y3⟩ := rj hx))
      have iD := HS.two (u0 := .string e.f0) (u1 := .int .i64 e.f1) hx WB hn6
      generalize ((w1.setCell ⟨g6, 0, none⟩ (.string e.f0)).setCell ⟨g6, 1, none⟩ (.int .i64 e.f1)) = w2 at iD ⊢
      clear x0 x1 y0 y1 y2 y3 hx HS
      obtain ⟨HS, hx⟩ := iD
      have hic : i ≤ c := by omega
      have hlt : (l.take i).length = i := by rw [List.length_take]; omega
      have hH : ∀ w1, Below w.heap.size w w1 → Calls Tryz.prog 39 #[.slice (some ad) i c, .int .i64 e.f1] w1 (fun e' w' => e' = .returned (.bool (named (l.take i) e.f1)) ∧ Below w1.heap.size w1 w') := fun w1 hb => by
        have h := MJ (Kd.GG (Kd.az hr hb) (m := i) (by omega)) (show (l.take i).length ≤ c by omega) (by omega) e.f1
        rw [hlt] at h
        exact h
      replace hlt := J hlt
      obtain ⟨p, hp⟩ : ∃ e, aK l ((i - 1 : Nat) : Int) = e := ⟨_, rfl⟩
      obtain ⟨v, v1⟩ : ∃ v, fe e.f0 = v := ⟨_, rfl⟩
      obtain ⟨bn, v2⟩ : ∃ v, decide (fK d.f0 e.f1 < 0) = v := ⟨_, rfl⟩
      obtain ⟨iv, c3⟩ : ∃ v, decide (0 < i) = v := ⟨_, rfl⟩
      have c4 : decide ((i : Int) > 0) = iv := (decide_eq_decide.mpr (by omega)).trans c3
      obtain ⟨ls, c5⟩ : ∃ v, Op.bytesLess p.f0.toList e.f0.toList = v := ⟨_, rfl⟩
      obtain ⟨nm, v5⟩ : ∃ v, named (l.take i) e.f1 = v := ⟨_, rfl⟩
      have hbd : nr d.f0 l i = (!v || bn || (iv && !ls) || nm) := by unfold nr; rw [he, v1, v2, hp, c3, c5, v5]
      replace hbd := J hbd; replace v1 := J v1; replace he := J he; replace hp := J hp; replace v5 := J v5
      have kS := J (And.intro (HS.bx _ (.head _)).2.2 (And.intro (mZ hx 0) (mZ hx 1)))
      cases v; rotate_left; cases bn; cases iv; cases nm; rotate_left 2
      have i1 : 0 < i := of_decide_eq_true c3
      obtain ⟨de, hde⟩ : ∃ z, wrap64 ((i : Int) - 1) = z := ⟨_, rfl⟩
      have my : de = ((i - 1 : Nat) : Int) := by rw [← hde]; unfold wrap64; omega
      have q5 := eq_true (show (0 : Int) ≤ de by omega)
      have q6 := eq_true (show de < (l.length : Int) by omega)
      have sB := J (And.intro kS.1.1 (And.intro (TI (Kd.az hr HS.be) (show i - 1 < _ by omega) de my hp.1) kS.1.2))
      replace my := J my
      have auf : (IntKind.i64.wrap ((i : Int) - 1)) = de := (dD _).trans hde
      cases ls; rotate_left; cases nm; rotate_right
      iterate 3 (refine ez (n := 34) (S := fun W => W.heap[g2]? = some (.cells cs 27 (0, 0)) ∧ W.cell? (ad.add (de.toNat * 2)) = some (.string p.f0) ∧ W.cell? ⟨g6, 0, none⟩ = some (.string e.f0) ∧ W.cell? ⟨g6, 1, none⟩ = some (.int .i64 e.f1)) (ds := []) (mb 0 34) (by kernel_rfl) rfl rfl sB.1 (fun hh => ?_); rotate_left)
      iterate 4 (refine ez (n := 34) (S := fun W => W.heap[g2]? = some (.cells cs 27 (0, 0)) ∧ W.cell? ⟨g6, 0, none⟩ = some (.string e.f0) ∧ W.cell? ⟨g6, 1, none⟩ = some (.int .i64 e.f1)) (ds := []) (mb 0 34) (by kernel_rfl) rfl rfl kS.1 (fun hh => ?_); rotate_left)
      all_goals
        replace HS := HS.drew
        (repeat (first | refine sU ?_ | refine sL hh (fun _ h => h.1) h4 ?_ | refine sD hh ?_ | (refine sC Tryz.func26 (De jo) ?_; rintro e' w5 ⟨rfl, hb⟩; replace HS := HS.below hb; rw [v1.1]; refine ⟨_, rfl, (by first | exact ⟨bj hh.1 hb, mX hb hh.2.1, mX hb hh.2.2⟩ | exact ⟨bj hh.1 hb, mX hb hh.2.1, mX hb hh.2.2.1, mX hb hh.2.2.2⟩), fun hh => rN ?_⟩; clear hb) | (refine sC Tryz.func35 (ae5 (eh hd HS.be) h0 _) ?_; rintro e' w5 ⟨rfl, hb⟩; replace HS := HS.below hb; refine ⟨_, rfl, (by first | exact ⟨bj hh.1 hb, mX hb hh.2.1, mX hb hh.2.2⟩ | exact ⟨bj hh.1 hb, mX hb hh.2.1, mX hb hh.2.2.1, mX hb hh.2.2.2⟩), fun hh => rN ?_⟩; clear hb) | (refine sC Tryz.func39 (hH _ HS.be) ?_; rintro e' w5 ⟨rfl, hb⟩; replace HS := HS.below hb; rw [v5.1]; refine ⟨_, rfl, (by first | exact ⟨bj hh.1 hb, mX hb hh.2.1, mX hb hh.2.2⟩ | exact ⟨bj hh.1 hb, mX hb hh.2.1, mX hb hh.2.2.1, mX hb hh.2.2.2⟩), fun hh => rN ?_⟩; clear hb) | refine sP ?_)); refine eM (by decide +kernel) ?_; clear hh
        first
        | (have hbad : nr d.f0 l i = true := hbd.1.trans (by simp)
           obtain rfl : false = r := (AG hbad).symm.trans hR.1
           go_wp2
           go_ret
           exact ⟨rfl, HS.be⟩)
        | (have hbad : nr d.f0 l i = false := hbd.1
           have uR := J ((Dx hbad).symm.trans hR.1)
           go_wp2
           go_roundg k1
           case measure => omega
           case rel => exact ⟨i + 1, congrArg (Value.int .i64) (by first | (unfold wrap64; omega) | omega), ⟨by have := hi.1; omega⟩, uR, HS⟩)
end Go.Proofs.YtingkpnoiekliaaGreat.MZ
end
section
namespace Go.Proofs.YtingkpnoiekliaaGreat.MZ
open Go.RowKit Go.Proofs.YtingkpnoiekliaaGreatW.PrintWords Go.Proofs.YtingkpnoiekliaaGreatW.PrintLast Go.Proofs.YtingkpnoiekliaaGreatW.PrintMore Go.Proofs.YtingkpnoiekliaaGreat.MWords
set_option linter.unusedVariables false
set_option linter.unusedSimpArgs false
set_option maxHeartbeats 8000000 in
set_option maxRecDepth 100000 in
theorem Ub {w : World} {cs : Array Value} {d : Dk} (hd : cH cs d w) (hs : Small d.f0 d.f1 d.f2) : Calls Tryz.prog 11 #[.agg cs] w (fun e w' => e = .returned (.bool (bO d.f0 d.f1 d.f2 d.f3)) ∧ Below w.heap.size w w') := by
  have HS := St.start w (fun _ => False)
  have kT := hd
  obtain ⟨A0, c0, A1, c1, A2, c2, rfl, U, r0, l1, r1, l2, r2⟩ := hd.open
  clear hd
  have hu := Tryz.underlying63
  obtain ⟨R, er⟩ : ∃ r, fl (jz d.f0 d.f1 d.f2 d.f3) (fun _ => true) false 0 d.f0.length = r := ⟨_, rfl⟩
  have hres : bO d.f0 d.f1 d.f2 d.f3 = (decide (1 ≤ d.f3 ∧ d.f3 ≤ 1000000) && (!R && (decide (jC d.f0 d.f0.length ≤ 60000) && (iB d.f0 d.f1 && iB d.f0 d.f2)))) := by unfold bO oS; rw [er]
  obtain ⟨a, va⟩ : ∃ v, decide (1 ≤ d.f3 ∧ d.f3 ≤ 1000000) = v := ⟨_, rfl⟩
  obtain ⟨b, vb⟩ : ∃ v, decide (jC d.f0 d.f0.length ≤ 60000) = v := ⟨_, rfl⟩
  obtain ⟨e1, ud⟩ : ∃ v, iB d.f0 d.f1 = v := ⟨_, rfl⟩
  obtain ⟨e2, ue⟩ : ∃ v, iB d.f0 d.f2 = v := ⟨_, rfl⟩
  rw [hres, va, vb, ud, ue]
  clear hres
  replace va := J va; replace ud := J ud; replace ue := J ue
  go_enter Tryz.func11, Tryz.ntmps11
  go_wp2_with (first | ((with_reducible refine aM (N := 1) rfl ?_); refine bg 1 #[.slice A0 d.f0.length c0, .slice A1 d.f1.length c1, .slice A2 d.f2.length c2, .int .i64 d.f3] 27 ?_; intro g1 hg w1 hx hb; replace HS := HS.box hg hx hb rfl; clear hb hx hg) | (refine kL 0 0 HS ?_))
  go_loopg [3, 9] d.f0.length (fun kq v3 v9 w' => ∃ (i : Nat), v9 = .int .i64 (i : Int) ∧ v3 = .int .i64 (jC d.f0 i) ∧ Aside0 (kq + i = d.f0.length) ∧ Aside0 (fl (jz d.f0 d.f1 d.f2 d.f3) (fun _ => true) false i kq = R) ∧ St w (fun _ => False) [(g1, #[.slice A0 d.f0.length c0, .slice A1 d.f1.length c1, .slice A2 d.f2.length c2, .int .i64 d.f3])] (fun _ => True) w')
  case atStart => exact ⟨0, rfl, rfl, ⟨rfl⟩, ⟨er⟩, HS⟩
  case round =>
    clear HS
    obtain ⟨i, rfl, rfl, hi, hR, HS⟩ := hrel
    have hlen := hs.h0
    cases gk with
    | zero =>
      have jo : decide ((i : Int) < (d.f0.length : Int)) = false := decide_eq_false (by have := hi.1; omega)
      have q3 : ¬ i < d.f0.length := by have := hi.1; omega
      have q4 := decide_eq_false q3
      obtain rfl : i = d.f0.length := by have := hi.1; omega
      obtain rfl : false = R := hR.1
      clear hR hi q3 q4 jo
      cases a <;> cases b <;> cases e1
      all_goals
        go_wp2_with (first | (refine kL 0 3 HS ?_) | ((with_reducible refine aH (f := 38) rfl ?_); refine bz Tryz.func38 (MK d.f3 1 1000000) ?_; rintro e w5 ⟨rfl, hb⟩; replace HS := HS.below hb; rw [va.1]; refine ⟨_, rfl, ?_⟩; clear hb) | ((with_reducible refine H7 rfl ?_); refine kQ (by rfl) ?_; dsimp only; (first | refine br 0 HS ?_ | refine kL 0 1 HS ?_ | refine kL 0 2 HS ?_)) | ((with_reducible refine aH (f := 40) rfl ?_); refine kQ (by rfl) ?_; dsimp only; (first | (refine bz Tryz.func40 (Ua (eh kT HS.be) hs.h0 (Kd.az r1 HS.be) l1 hs.h1 hs.z1) ?_; rintro e w5 ⟨rfl, hb⟩; rw [ud.1]) | (refine bz Tryz.func40 (Ua (eh kT HS.be) hs.h0 (Kd.az r2 HS.be) l2 hs.h2 hs.z2) ?_; rintro e w5 ⟨rfl, hb⟩; rw [ue.1])); replace HS := HS.below hb; refine ⟨_, rfl, ?_⟩; clear hb))
        go_ret
        exact ⟨by simp, HS.be⟩
    | succ k1 =>
      have hil : i < d.f0.length := by have := hi.1; omega
      have pE : decide ((i : Int) < (d.f0.length : Int)) = true := decide_eq_true (by omega)
      have q1 := eq_true (show (0 : Int) ≤ (i : Int) by omega)
      have q2 := eq_true (show (i : Int) < (d.f0.length : Int) by omega)
      have hsum := YF hs.hd hil hs.h0
      obtain ⟨ad, A, c, rfl, x0, x1, x2, _, _⟩ := kO (Kd.az r0 HS.be) (i : Int) (by omega) (by omega)
      rw [Int.toNat_natCast] at x0 x1 x2
      obtain ⟨x, uV⟩ : ∃ e, ae d.f0 (i : Int) = e := ⟨_, rfl⟩
      obtain ⟨p, hp⟩ : ∃ e, ae d.f0 ((i - 1 : Nat) : Int) = e := ⟨_, rfl⟩
      rw [uV] at x0 x1 x2 hsum
      have au2 : (IntKind.i64.wrap (jC d.f0 i + (x.f1.length : Int))) = jC d.f0 (i + 1) := (dD _).trans hsum
      clear hsum
      go_upto_region 5 with (first | ((with_reducible refine aM (N := 5) rfl ?_); refine bg 5 #[.int .i64 0, .slice none 0 0, .int .i64 0] 63 ?_; intro g5 hg w1 hx hb; have DR := Nat.le_trans HS.be.size (Nat.le_of_eq hg.symm); have Oa := HS.fresh hg; replace HS := HS.below hb; replace x0 := mX hb x0; replace x1 := mX hb x1; replace x2 := mX hb x2; clear hb hg; obtain ⟨y0, y1, y2, y3, y4, y5⟩ := nF hx))
      have iD := HS.Z8 (u0 := .int .i64 x.f0) (u1 := .slice A x.f1.length c) (u2 := .int .i64 x.f2) hx DR Oa
      generalize (((w1.setCell ⟨g5, 0, none⟩ (.int .i64 x.f0)).setCell ⟨g5, 1, none⟩ (.slice A x.f1.length c)).setCell ⟨g5, 2, none⟩ (.int .i64 x.f2)) = w2 at iD ⊢
      clear x0 x1 x2 y0 y1 y2 y3 y4 y5 hx HS
      obtain ⟨HS, hx⟩ := iD
      obtain ⟨dn, hdn⟩ : ∃ z, wrap64 (d.f3 - 1) = z := ⟨_, rfl⟩
      have au1 : (IntKind.i64.wrap (d.f3 - 1)) = dn := (dD _).trans hdn
      obtain ⟨b1, v1⟩ : ∃ v, decide (1 ≤ x.f0 ∧ x.f0 ≤ dn) = v := ⟨_, rfl⟩
      obtain ⟨b2, v2⟩ : ∃ v, decide (0 ≤ x.f2 ∧ x.f2 ≤ (x.f1.length : Int)) = v := ⟨_, rfl⟩
      obtain ⟨n1, v3⟩ : ∃ v, named d.f1 x.f0 = v := ⟨_, rfl⟩
      obtain ⟨n2, v4⟩ : ∃ v, named d.f2 x.f0 = v := ⟨_, rfl⟩
      obtain ⟨iv, c3⟩ : ∃ v, decide (0 < i) = v := ⟨_, rfl⟩
      have c4 : decide ((i : Int) > 0) = iv := (decide_eq_decide.mpr (by omega)).trans c3
      obtain ⟨pv, c5⟩ : ∃ v, decide (p.f0 ≥ x.f0) = v := ⟨_, rfl⟩
      have hbd : jz d.f0 d.f1 d.f2 d.f3 i = (!b1 || !b2 || (iv && pv) || (!n1 && !n2)) := by unfold jz; rw [uV, hdn, v1, v2, hp, v3, v4, c3, c5]
      replace hbd := J hbd; replace v1 := J v1; replace v2 := J v2; replace v3 := J v3; replace v4 := J v4; replace hdn := J hdn; replace uV := J uV
      have kS := J (And.intro (mZ hx 0) (And.intro (mZ hx 1) (And.intro (mZ hx 2) (eN (HS.bx _ (.head _)).2.2))))
      cases b1; rotate_left; cases b2; rotate_left; cases iv; cases n1; cases n2; rotate_left 3
      have i1 : 0 < i := of_decide_eq_true c3
      obtain ⟨de, hde⟩ : ∃ z, wrap64 ((i : Int) - 1) = z := ⟨_, rfl⟩
      have my : de = ((i - 1 : Nat) : Int) := by rw [← hde]; unfold wrap64; omega
      have q5 := eq_true (show (0 : Int) ≤ de by omega)
      have q6 := eq_true (show de < (d.f0.length : Int) by omega)
      have sB := J (And.intro (TH (Kd.az r0 HS.be) (show i - 1 < _ by omega) de my hp) (And.intro kS.1.2.1 (And.intro kS.1.1 kS.1.2.2)))
      replace my := J my
      have auf : (IntKind.i64.wrap ((i : Int) - 1)) = de := (dD _).trans hde
      cases pv; cases n1; cases n2
      iterate 4 (refine ez (n := 48) (S := fun W => W.cell? (ad.add (de.toNat * 3)) = some (.int .i64 p.f0) ∧ W.cell? ⟨g5, 1, none⟩ = some (.slice A x.f1.length c) ∧ W.cell? ⟨g5, 0, none⟩ = some (.int .i64 x.f0) ∧ W.cell? ⟨g5, 2, none⟩ = some (.int .i64 x.f2) ∧ W.cell? ⟨g1, 0, none⟩ = some (.slice (some ad) d.f0.length c0) ∧ W.cell? ⟨g1, 1, none⟩ = some (.slice A1 d.f1.length c1) ∧ W.cell? ⟨g1, 2, none⟩ = some (.slice A2 d.f2.length c2) ∧ W.cell? ⟨g1, 3, none⟩ = some (.int .i64 d.f3)) (ds := []) (mb 0 48) (by kernel_rfl) rfl rfl sB.1 (fun hh => ?_); rotate_left)
      iterate 5 (refine ez (n := 48) (S := fun W => W.cell? ⟨g5, 0, none⟩ = some (.int .i64 x.f0) ∧ W.cell? ⟨g5, 1, none⟩ = some (.slice A x.f1.length c) ∧ W.cell? ⟨g5, 2, none⟩ = some (.int .i64 x.f2) ∧ W.cell? ⟨g1, 0, none⟩ = some (.slice (some ad) d.f0.length c0) ∧ W.cell? ⟨g1, 1, none⟩ = some (.slice A1 d.f1.length c1) ∧ W.cell? ⟨g1, 2, none⟩ = some (.slice A2 d.f2.length c2) ∧ W.cell? ⟨g1, 3, none⟩ = some (.int .i64 d.f3)) (ds := []) (mb 0 48) (by kernel_rfl) rfl rfl kS.1 (fun hh => ?_); rotate_left)
      all_goals
        replace HS := HS.drew
        (repeat (first | refine sU ?_ | refine sD hh ?_ | (refine sC Tryz.func38 (MK x.f0 1 dn) ?_; rintro e w5 ⟨rfl, hb⟩; replace HS := HS.below hb; rw [v1.1]; refine ⟨_, rfl, (by first | exact vk hb hh | exact wX hb hh), fun hh => rN ?_⟩; clear hb) | (refine sC Tryz.func38 (MK x.f2 0 x.f1.length) ?_; rintro e w5 ⟨rfl, hb⟩; replace HS := HS.below hb; rw [v2.1]; refine ⟨_, rfl, (by first | exact vk hb hh | exact wX hb hh), fun hh => rN ?_⟩; clear hb) | (refine sC Tryz.func39 (MJ (Kd.az r1 HS.be) l1 hs.h1 x.f0) ?_; rintro e w5 ⟨rfl, hb⟩; replace HS := HS.below hb; rw [v3.1]; refine ⟨_, rfl, (by first | exact vk hb hh | exact wX hb hh), fun hh => rN ?_⟩; clear hb) | (refine sC Tryz.func39 (MJ (Kd.az r2 HS.be) l2 hs.h2 x.f0) ?_; rintro e w5 ⟨rfl, hb⟩; replace HS := HS.below hb; rw [v4.1]; refine ⟨_, rfl, (by first | exact vk hb hh | exact wX hb hh), fun hh => rN ?_⟩; clear hb) | refine sP ?_)); refine eM (by decide +kernel) ?_; have z1 := hh.2.1; clear hh
        first
        | (have hbad : jz d.f0 d.f1 d.f2 d.f3 i = true := hbd.1
           obtain rfl : true = R := (AG hbad).symm.trans hR.1
           go_wp2
           go_ret
           exact ⟨by simp, HS.be⟩)
        | (have hbad : jz d.f0 d.f1 d.f2 d.f3 i = false := hbd.1
           have uR := J ((Dx hbad).symm.trans hR.1)
           go_wp2
           go_roundg k1
           case measure => omega
           case rel => exact ⟨i + 1, congrArg (Value.int .i64) (by first | (unfold wrap64; omega) | omega), rfl, ⟨by have := hi.1; omega⟩, uR, HS⟩)
def kU.f (_k:Nat) (a:List aj) (b c:List ab) (n:Int):Option Bool:=if BE a b c=true then some (bO a b c n) else none
theorem kU.calls (k:Nat) (A0:Option Addr) (c0:Nat) (U:List aj) (A1:Option Addr) (c1:Nat) (l1:List ab) (A2:Option Addr) (c2:Nat) (l2:List ab) (n:Int) (r:Bool) (w:World) (h0:Kd.C bf w A0 U.length U) (e0:U.length≤c0) (h1:Kd.C ak w A1 l1.length l1) (e1:l1.length≤c1) (h2:Kd.C ak w A2 l2.length l2) (e2:l2.length≤c2) (h:kU.f k U l1 l2 n=some r) :
 Calls Tryz.prog 11 #[.agg #[.slice A0 U.length c0,.slice A1 l1.length c1,.slice A2 l2.length c2,.int .i64 n]] w fun e w'=>e = .returned (.bool r)∧Below w.heap.size w w':=by
 unfold kU.f at h;split at h
 ·rename_i hs;obtain rfl:=Option.some.inj h;exact Ub (d:=⟨U,l1,l2,n⟩) (tR w ⟨U,l1,l2,n⟩ e0 h0 e1 h1 e2 h2) (xi.1 hs)
 ·cases h
end Go.Proofs.YtingkpnoiekliaaGreat.MZ
end
section

end
section
namespace Go.Proofs.YtingkpnoiekliaaGreat.MZ
open Go.RowKit Go.Proofs.YtingkpnoiekliaaGreatW.PrintWords Go.Proofs.YtingkpnoiekliaaGreatW.PrintLast Go.Proofs.YtingkpnoiekliaaGreatW.PrintMore Go.Proofs.YtingkpnoiekliaaGreat.MWords
attribute [local go_sem] max2_int min2_int max_two min_two max_three min_three max_four min_four
set_option linter.unusedVariables false
set_option linter.unusedSimpArgs false
def wU.f (U:List Int):Option (List Int):=if ([]:List Int).length+U.length<140737488355328 then (some (([]:List Int)++U)) else (none)
set_option maxHeartbeats 8000000 in
set_option maxRecDepth 100000 in
theorem wU.calls (A0:Option Addr) (c0:Nat) (U:List Int) (r:List Int) (w:World) (b9:Kd.C (Kd.int .u8) w A0 U.length U) (cg:U.length≤c0) (h:wU.f U=some r) :
 Calls Tryz.prog 36 #[.slice A0 U.length c0] w fun e w'=>∃bE:Value,e = .returned (bE)∧Kd.R (Kd.int .u8) 5 w' w.heap.size (fun _=>True) bE r∧Below w.heap.size w w':=by
 have cr:=J b9;have fy:=J cg;clear b9 cg;have HB:=J (Below.refl w.heap.size w);have H:(if ([]:List Int).length+U.length<140737488355328 then (some (([]:List Int)++U)) else (none))=some r:=h;clear h;by_cases c2:([]:List Int).length+U.length<140737488355328
 ·rw[if_pos c2]at H;have rX:=J c2;clear c2;obtain⟨an0,EA⟩:∃y_:List Int,y_=(([]:List Int)++U):=⟨_,rfl⟩;replace H:(some an0)=some r:=by first|(rw[EA];with_reducible exact H)|(have ay:=(Option.bind_some _ _).symm.trans H;rw[EA];with_reducible exact ay)|(have ay:=(Option.bind_some _ _).symm.trans H;with_reducible exact ay)|with_reducible exact H|(rw[EA];exact H)|exact H
  have ads:=J EA;clear EA;obtain rfl:=Option.some.inj H;go_enter Tryz.func36,Tryz.ntmps36;go_wp2_with (first|((with_reducible refine iK (b:=.append) (xs:=#[.const (.slice none 0 0),.tmp 3]) rfl ?_);at_builtin;refine Kd.uC (Kd.int .u8) (w0:=w) w.heap.size rfl (.const (.slice none 0 0)) (.tmp 3) 22 5 (.int .u8 0) 1 rfl Tryz.underlying22 l9 rfl (by decide) (by omega) (.slice none 0 0) ([]:List Int) U _ _ _ (fun _=>True) (fun _=>False) rfl rfl ?aO ?aR (fun _ _ h=>h) (fun _ h=>h.elim) ?aF ?aB ?aS ?aL ?_;(case aR=>exact mC cr.1);(case aB=>exact(mH HB.1));(case aF=>exact(fun _ _=>trivial));(case aO=>exact((Kd.lS _ _ _ _ (fun _=>True))));(case aS=>exact(aQ (mH HB.1)));(case aL=>have:=rX.1;omega);intro ayV w3 ho hb hg hat;rw[←ads.1]at ho;replace HB:=J (hb);have abD:=J (ho);clear ho hb hg hat));go_ret;exact⟨_,cP,mR abD.1,(mH HB.1)⟩
 ·rw[if_neg c2]at H;exact absurd H (by simp)
def fJ.U:Nat→List (aj)→Int→Int→List (aj)→List (ab)→List (ab)→Int→Option ((List (aj)) × (List (ab)) × (List (ab)) × Int)
 |0,_,_,_,_,_,_,_=>none
 |k+1,zM,vF,zN,QO,aau,aav,aaw=>if zN<vF then (if 0≤zN then (if zN<(zM.length:Int) then ((wU.f ((ae zM zN).f1)).bind fun t192=>(if QO.length<3518437208883 then (fJ.U k zM vF (wrap64 (zN+1)) (QO++[(⟨(ae zM zN).f0,t192,(ae zM zN).f2⟩:aj)]) aau aav aaw) else (none))) else (none)) else (none)) else (some (QO,aau,aav,aaw))
def fJ.f (k:Nat) (aa:List (aj)) (af:List (ab)) (ah:List (ab)) (ai:Int):Option ((List (aj)) × (List (ab)) × (List (ab)) × Int):=if ([]:List (ab)).length+af.length<5864062014805 then (if ([]:List (ab)).length+ah.length<5864062014805 then (fJ.U k aa (aa.length:Int) 0 ([]:List (aj)) (([]:List (ab))++af) (([]:List (ab))++ah) ai) else (none)) else (none)
def fJ.T1:Bool × List (List Nat × List Nat):=(true,[([],[]),([0],[0]),([1],[1]),([],[]),([3],[3]),([4,2],[4]),([],[]),([6],[6]),([2,5,7],[2,5,7]),([],[]),([9,8,5,0,1,2,3,4,5,6,7,8,9],[8,9])])
def fJ.B1:List Nat:=[0,1,3,0,8,31,0,64,255,0,1023]
theorem fJ.om:eH .any (opsOf Tryz.f27 1)=fJ.T1:=by kernel_rfl
theorem fJ.nW:jE fJ.T1.2 fJ.B1=true:=by kernel_rfl
set_option maxHeartbeats 8000000 in
set_option maxRecDepth 100000 in
theorem fJ.calls (k:Nat) (av:Option Addr) (al:Nat) (aa:List (aj)) (ar:Option Addr) (an:Nat) (af:List (ab)) (ao:Option Addr) (aq:Nat) (ah:List (ab)) (ai:Int) (r1:List (aj)) (r2:List (ab)) (r3:List (ab)) (r4:Int) (w:World) (cW:Kd.C bf w av aa.length aa) (cT:aa.length≤al) (cX:Kd.C ak w ar af.length af) (cU:af.length≤an) (cY:Kd.C ak w ao ah.length ah) (cV:ah.length≤aq) (h:fJ.f k aa af ah ai=some (r1,r2,r3,r4)) :
 Calls Tryz.prog 27 #[.agg #[.slice av aa.length al,.slice ar af.length an,.slice ao ah.length aq,.int .i64 ai]] w fun e w'=>∃bE cM cN:Value,e = .returned (.agg #[bE,cM,cN,.int .i64 r4])∧Kd.S bf 63 w' w.heap.size (fun _=>True) bE r1∧Kd.R ak 89 w' w.heap.size (fun k_=>some k_≠(cN:Value).ownBlock) cM r2∧Kd.R ak 89 w' w.heap.size (fun k_=>some k_≠(cM:Value).ownBlock) cN r3∧Below w.heap.size w w':=by
 have ly:=Tryz.underlying27;have D8:=Tryz.underlying63;have cG:=J cW;have df:=J cT;clear cW cT;have cC:=J cX;have cR:=J cU;clear cX cU;have cO:=J cY;have dg:=J cV;clear cY cV;have HB:=J (Below.refl w.heap.size w);have H:(if ([]:List (ab)).length+af.length<5864062014805 then (if ([]:List (ab)).length+ah.length<5864062014805 then (fJ.U k aa (aa.length:Int) 0 ([]:List (aj)) (([]:List (ab))++af) (([]:List (ab))++ah) ai) else (none)) else (none))=some (r1,r2,r3,r4):=h;clear h;by_cases c2:([]:List (ab)).length+af.length<5864062014805
 ·rw[if_pos c2]at H;have rX:=J c2;clear c2;obtain⟨jG,EC⟩:∃y_:List (ab),y_=(([]:List (ab))++af):=⟨_,rfl⟩;replace H:(if ([]:List (ab)).length+ah.length<5864062014805 then (fJ.U k aa (aa.length:Int) 0 ([]:List (aj)) jG (([]:List (ab))++ah) ai) else (none))=some (r1,r2,r3,r4):=by first|(rw[EC];with_reducible exact H)|(have ay:=(Option.bind_some _ _).symm.trans H;rw[EC];with_reducible exact ay)|(have ay:=(Option.bind_some _ _).symm.trans H;with_reducible exact ay)|with_reducible exact H|(rw[EC];exact H)|exact H
  have SQ:=J EC;clear EC;by_cases c3:([]:List (ab)).length+ah.length<5864062014805
  ·rw[if_pos c3]at H;have vV:=J c3;clear c3;obtain⟨kE,ED⟩:∃y_:List (ab),y_=(([]:List (ab))++ah):=⟨_,rfl⟩;replace H:(fJ.U k aa (aa.length:Int) 0 ([]:List (aj)) jG kE ai)=some (r1,r2,r3,r4):=by first|(rw[ED];with_reducible exact H)|(have ay:=(Option.bind_some _ _).symm.trans H;rw[ED];with_reducible exact ay)|(have ay:=(Option.bind_some _ _).symm.trans H;with_reducible exact ay)|with_reducible exact H|(rw[ED];exact H)|exact H
   have L7:=J ED;clear ED;have H':=J H;clear H;go_enter Tryz.func27,Tryz.ntmps27
   try go_wp2_with (first|((with_reducible refine aM (N:=1) rfl ?_);refine bg 1 #[.slice av aa.length al,.slice ar af.length an,.slice ao ah.length aq,.int .i64 ai] 27 ?_;intro jm hg w4 hbox hb;have dz:=J (hbox);have aop:=mG hg (mH HB.1);have gv:=mG hg (mH HB.1);replace HB:=J (aA (mH HB.1) hb);clear hb hbox hg)|((with_reducible refine aM (N:=2) rfl ?_);refine bg 2 #[.slice none 0 0,.slice none 0 0,.slice none 0 0,.int .i64 0] 27 ?_;intro n8 hg w5 hbox hb;have ek:=J (hbox);have aoq:=mG hg (aZ HB.1 gv.1);have gX:=mG hg (aZ HB.1 gv.1);replace HB:=J (aA (aZ HB.1 gv.1) hb);have SH:=bY hg dz.1;have SI:=bX hg dz.1;replace dz:=mB dz hb;clear hb hbox hg))
   replace dz:=J (dJ dz.1);replace ek:=J (dJ ek.1);replace HB:=J (dI HB.1);refine ez (n:=11) (S:=fun w'=>w'.cell? ⟨jm,0,none⟩=some (.slice av aa.length al)∧w'.cell? ⟨jm,1,none⟩=some (.slice ar af.length an)∧w'.cell? ⟨jm,2,none⟩=some (.slice ao ah.length aq)∧w'.cell? ⟨jm,3,none⟩=some (.int .i64 ai)) (ds:=[]) (mb 0 11) (by kernel_rfl) rfl rfl (eN dz.1) (fun hHeld=>?_);refine j8 fJ.om fJ.nW (fun HT_ HW_=>?_);generalize w5.drew=w6 at dz ek HB hHeld ⊢
   refine aX 0 6 HT_.1 (mb 1 10) ?_;refine aX 3 9 HT_.1 (mr [1,2,1,7]) ?_;refine aX 6 12 HT_.1 (mr [1,2,1,2,1,4]) ?_;refine dm 1 7 HT_.1 HW_.1 (mr [2,1,1,2,1,4]) hHeld ?_;refine dm 4 10 HT_.1 HW_.1 (mr [2,1,2,1,1,4]) hHeld ?_;refine dm 7 13 HT_.1 HW_.1 (mr [2,1,2,1,2,3]) hHeld ?_;refine pG (σ:=Value × Value × Nat) 1 (mb 10 1) (fun s_=>[(8,s_.1),(11,s_.2.1),(3,.pointer (some ⟨s_.2.2,0,none⟩)),(14,.agg #[.slice none 0 0,s_.1,s_.2.1,.int .i64 ai])]) (fun s_ w'=>(w'.cell? ⟨jm,0,none⟩=some (.slice av aa.length al)∧w'.cell? ⟨jm,1,none⟩=some (.slice ar af.length an)∧w'.cell? ⟨jm,2,none⟩=some (.slice ao ah.length aq)∧w'.cell? ⟨jm,3,none⟩=some (.int .i64 ai))∧(Kd.R ak 89 w' w.heap.size (fun k_=>some k_≠(s_.2.1:Value).ownBlock) s_.1 jG)∧(Kd.R ak 89 w' w.heap.size (fun k_=>some k_≠(s_.1:Value).ownBlock) s_.2.1 kE)∧(w'.heap[jm]? = some (.cells #[.slice av aa.length al,.slice ar af.length an,.slice ao ah.length aq,.int .i64 ai] 27 (0,0)))∧(w'.heap[n8]? = some (.cells #[.slice none 0 0,.slice none 0 0,.slice none 0 0,.int .i64 0] 27 (0,0)))∧(w'.heap[s_.2.2]? = some (.cells #[.slice none 0 0,.slice none 0 0,.slice none 0 0,.int .i64 0] 27 (0,0)))∧(w.heap.size≤s_.2.2)∧(w.heap.size≤s_.2.2)∧(jm≠s_.2.2)∧(s_.2.2≠jm)∧(n8≠s_.2.2)∧(s_.2.2≠n8)∧(Below w.heap.size w w')) ?_ ?_
   rotate_left
   ·intro hCont;refine tZ (i:=2) (j:=9) (Ni:=some 8) (Nj:=some 3) (mr [5,1,2,3]) (mr [2,1,2,1,2,1,1,1]) rfl rfl rfl rfl (xt HT_.1 (by kernel_rfl)) (by decide) (by decide) (fun K hK=>?_) (fun K hK=>?_)
    ·skip;refine Kd.pe ak (w0:=w) w.heap.size rfl (.const (.slice none 0 0)) (.tmp 7) 25 89 (.agg #[(.string ⟨#[]⟩),(.int .i64 0)]) 24 rfl Tryz.underlying25 jr rfl (by decide) (by omega) (.slice none 0 0) ([]:List (ab)) af _ _ _ (fun _=>True) (fun _=>False) rfl rfl ?aO ?aR (fun _ _ h=>h) (fun _ h=>h.elim) ?aF ?aB ?aS ?aL ?_
     (case aR=>exact mC (Kd.az cC.1 HB.1))
     (case aB=>exact(aT HB.1 gv.1 gX.1))
     (case aF=>exact(fun _ _=>trivial))
     (case aO=>exact((Kd.lS _ _ _ _ (fun _=>True))))
     (case aS=>exact(aQ (aT HB.1 gv.1 gX.1)))
     (case aL=>have:=rX.1;omega)
     intro ub w7 ho hb hg hat;rw[←SQ.1]at ho;replace dz:=J (cL (g:=jm) (o:=.cells #[.slice av aa.length al,.slice ar af.length an,.slice ao ah.length aq,.int .i64 ai] 27 (0,0)) (mK dz.1) hg (by simp[Value.ownBlock]));replace ek:=J (cL (g:=n8) (o:=.cells #[.slice none 0 0,.slice none 0 0,.slice none 0 0,.int .i64 0] 27 (0,0)) (mK ek.1) hg (by simp[Value.ownBlock]));replace HB:=J (hb);have kd:=J (ho);clear ho hb hg hat;refine hK.out _ _ (eN dz.1) (fun hHeld=>?_);clear hK K;refine dc 8 ?_;refine tZ (i:=5) (j:=9) (Ni:=some 11) (Nj:=some 3) (mb 8 3) (mr [5,1,2,1,1,1]) rfl rfl rfl rfl (xt HT_.1 (by kernel_rfl)) (by decide) (by decide) (fun K hK=>?_) (fun K hK=>?_)
     ·skip;refine Kd.pe ak (w0:=w) w.heap.size rfl (.const (.slice none 0 0)) (.tmp 10) 25 89 (.agg #[(.string ⟨#[]⟩),(.int .i64 0)]) 24 rfl Tryz.underlying25 jr rfl (by decide) (by omega) (.slice none 0 0) ([]:List (ab)) ah _ _ _ (fun k_=>some k_≠(ub:Value).ownBlock) (fun _=>False) rfl rfl ?aO ?aR (fun _ _ h=>h) (fun _ h=>h.elim) ?aF ?aB ?aS ?aL ?_
      (case aR=>exact mC (Kd.az cO.1 HB.1))
      (case aB=>exact(aT HB.1 gv.1 gX.1))
      (case aF=>exact(fun k_ hk=>Kd.jN (Kd.dK (mR kd.1)) k_ hk))
      (case aO=>exact((Kd.lS _ _ _ _ (fun k_=>some k_≠(ub:Value).ownBlock))))
      (case aS=>exact(aQ (aT HB.1 gv.1 gX.1)))
      (case aL=>have:=vV.1;omega)
      intro Gk w8 ho hb hg hat;rw[←L7.1]at ho;replace dz:=J (cL (g:=jm) (o:=.cells #[.slice av aa.length al,.slice ar af.length an,.slice ao ah.length aq,.int .i64 ai] 27 (0,0)) (mK dz.1) hg (by simp[Value.ownBlock]));replace ek:=J (cL (g:=n8) (o:=.cells #[.slice none 0 0,.slice none 0 0,.slice none 0 0,.int .i64 0] 27 (0,0)) (mK ek.1) hg (by simp[Value.ownBlock]));replace kd:=J (Kd.pd (Kd.Mc (mR kd.1)) hg hat);replace HB:=J (hb);have qe:=J (ho);clear ho hb hg hat;obtain⟨GC,HC,H0⟩:=Kd.bU qe.1
      (first|subst H0|(injection H0 with cy eb cA;have ec:=cy.symm;have ee:=cA.symm;clear cy eb cA;subst ec;subst ee))
      obtain⟨o4,pq,n5⟩:=Kd.bU kd.1
      (first|subst n5|(injection n5 with cy eb cA;have ec:=cy.symm;have ee:=cA.symm;clear cy eb cA;subst ec;subst ee))
      refine hK.out _ _ (eN dz.1) (fun hHeld=>?_);clear hK K;refine dc 11 ?_;refine aX 8 14 HT_.1 (mb 9 2) ?_;refine eO 9 (some 3) HT_.1 (mb 10 1) (fun K hK=>?_);refine sd ?hg (N:=3) ?hd (cs:=#[.slice none 0 0,.slice none 0 0,.slice none 0 0,.int .i64 0]) (t:=27) ?hr ?_;(case hd=>rfl);(case hg=>rfl);(case hr=>first|(go_simp;done)|(go_simp;rfl));intro fc hg eZ hbox hb;replace kd:=J (Kd.bu (mR kd.1) hb);replace qe:=J (Kd.bu (mR qe.1) hb);have e7:=J (hbox);have zZ:=mG hg (aT HB.1 gv.1 gX.1);have ji:=mG hg (aT HB.1 gv.1 gX.1);replace HB:=J (aA (aT HB.1 gv.1 gX.1) hb);have iy:=bY hg dz.1;have qg:=bX hg dz.1;replace dz:=mB dz hb;have pc:=bY hg ek.1;have qL:=bX hg ek.1;replace ek:=mB ek hb;clear hb hbox hg;refine hK.out _ _ (eN dz.1) (fun hHeld=>?_);clear hK K;refine dc 3 ?_;exact yW mU (hCont (.slice o4 jG.length pq,.slice GC kE.length HC,fc) _ ⟨hHeld,(by refine mR ?_;exact Kd.aw kd.1 (fun _ hk=>hk.2)),(mR qe.1),(mK dz.1),(mK ek.1),(mK e7.1),zZ.1,ji.1,iy.1,qg.1,pc.1,qL.1,(aI HB.1 gv.1 gX.1 ji.1)⟩)
     ·skip;refine sd ?hg (N:=3) ?hd (cs:=#[.slice none 0 0,.slice none 0 0,.slice none 0 0,.int .i64 0]) (t:=27) ?hr ?_;(case hd=>rfl);(case hg=>rfl);(case hr=>first|(go_simp;done)|(go_simp;rfl));intro fc hg w8 hbox hb;replace kd:=J (Kd.bu (mR kd.1) hb);have e7:=J (hbox);have zZ:=mG hg (aT HB.1 gv.1 gX.1);have ji:=mG hg (aT HB.1 gv.1 gX.1);replace HB:=J (aA (aT HB.1 gv.1 gX.1) hb);have iy:=bY hg dz.1;have qg:=bX hg dz.1;replace dz:=mB dz hb;have pc:=bY hg ek.1;have qL:=bX hg ek.1;replace ek:=mB ek hb;clear hb hbox hg;refine hK.out _ _ (eN dz.1) (fun hHeld=>?_);clear hK K;refine dc 3 ?_;refine eO 5 (some 11) HT_.1 (mr [8,1,1,1]) (fun K hK=>?_);refine Kd.pe ak (w0:=w) w.heap.size rfl (.const (.slice none 0 0)) (.tmp 10) 25 89 (.agg #[(.string ⟨#[]⟩),(.int .i64 0)]) 24 rfl Tryz.underlying25 jr rfl (by decide) (by omega) (.slice none 0 0) ([]:List (ab)) ah _ _ _ (fun k_=>some k_≠(ub:Value).ownBlock) (fun _=>False) rfl rfl ?aO ?aR (fun _ _ h=>h) (fun _ h=>h.elim) ?aF ?aB ?aS ?aL ?_
      (case aR=>exact mC (Kd.az cO.1 HB.1))
      (case aB=>exact(aI HB.1 gv.1 gX.1 ji.1))
      (case aF=>exact(fun k_ hk=>Kd.jN (Kd.dK (mR kd.1)) k_ hk))
      (case aO=>exact((Kd.lS _ _ _ _ (fun k_=>some k_≠(ub:Value).ownBlock))))
      (case aS=>exact(aQ (aI HB.1 gv.1 gX.1 ji.1)))
      (case aL=>have:=vV.1;omega)
      intro Gk w9 ho hb hg hat;rw[←L7.1]at ho;replace dz:=J (cL (g:=jm) (o:=.cells #[.slice av aa.length al,.slice ar af.length an,.slice ao ah.length aq,.int .i64 ai] 27 (0,0)) (mK dz.1) hg (by simp[Value.ownBlock]));replace ek:=J (cL (g:=n8) (o:=.cells #[.slice none 0 0,.slice none 0 0,.slice none 0 0,.int .i64 0] 27 (0,0)) (mK ek.1) hg (by simp[Value.ownBlock]));replace kd:=J (Kd.pd (Kd.Mc (mR kd.1)) hg hat);replace e7:=J (cL (g:=fc) (o:=.cells #[.slice none 0 0,.slice none 0 0,.slice none 0 0,.int .i64 0] 27 (0,0)) (mK e7.1) hg (by simp[Value.ownBlock]));replace HB:=J (hb);have qe:=J (ho);clear ho hb hg hat;obtain⟨o4,pq,n5⟩:=Kd.bU qe.1
      (first|subst n5|(injection n5 with cy eb cA;have ec:=cy.symm;have ee:=cA.symm;clear cy eb cA;subst ec;subst ee))
      obtain⟨iZ,jd,uP⟩:=Kd.bU kd.1
      (first|subst uP|(injection uP with cy eb cA;have ec:=cy.symm;have ee:=cA.symm;clear cy eb cA;subst ec;subst ee))
      refine hK.out _ _ (eN dz.1) (fun hHeld=>?_);clear hK K;refine dc 11 ?_;refine aX 8 14 HT_.1 (mb 10 1) ?_;exact yW mU (hCont (.slice iZ jG.length jd,.slice o4 kE.length pq,fc) _ ⟨hHeld,(by refine mR ?_;exact Kd.aw kd.1 (fun _ hk=>hk.2)),(mR qe.1),(mK dz.1),(mK ek.1),(mK e7.1),zZ.1,ji.1,iy.1,qg.1,pc.1,qL.1,(aI HB.1 gv.1 gX.1 ji.1)⟩)
    ·skip;refine sd ?hg (N:=3) ?hd (cs:=#[.slice none 0 0,.slice none 0 0,.slice none 0 0,.int .i64 0]) (t:=27) ?hr ?_;(case hd=>rfl);(case hg=>rfl);(case hr=>first|(go_simp;done)|(go_simp;rfl));intro fc hg w7 hbox hb;have e7:=J (hbox);have zZ:=mG hg (aT HB.1 gv.1 gX.1);have ji:=mG hg (aT HB.1 gv.1 gX.1);replace HB:=J (aA (aT HB.1 gv.1 gX.1) hb);have iy:=bY hg dz.1;have qg:=bX hg dz.1;replace dz:=mB dz hb;have pc:=bY hg ek.1;have qL:=bX hg ek.1;replace ek:=mB ek hb;clear hb hbox hg;refine hK.out _ _ (eN dz.1) (fun hHeld=>?_);clear hK K;refine dc 3 ?_;refine eO 2 (some 8) HT_.1 (mr [5,1,2,1,1,1]) (fun K hK=>?_);refine Kd.pe ak (w0:=w) w.heap.size rfl (.const (.slice none 0 0)) (.tmp 7) 25 89 (.agg #[(.string ⟨#[]⟩),(.int .i64 0)]) 24 rfl Tryz.underlying25 jr rfl (by decide) (by omega) (.slice none 0 0) ([]:List (ab)) af _ _ _ (fun _=>True) (fun _=>False) rfl rfl ?aO ?aR (fun _ _ h=>h) (fun _ h=>h.elim) ?aF ?aB ?aS ?aL ?_
     (case aR=>exact mC (Kd.az cC.1 HB.1))
     (case aB=>exact(aI HB.1 gv.1 gX.1 ji.1))
     (case aF=>exact(fun _ _=>trivial))
     (case aO=>exact((Kd.lS _ _ _ _ (fun _=>True))))
     (case aS=>exact(aQ (aI HB.1 gv.1 gX.1 ji.1)))
     (case aL=>have:=rX.1;omega)
     intro ub w8 ho hb hg hat;rw[←SQ.1]at ho;replace dz:=J (cL (g:=jm) (o:=.cells #[.slice av aa.length al,.slice ar af.length an,.slice ao ah.length aq,.int .i64 ai] 27 (0,0)) (mK dz.1) hg (by simp[Value.ownBlock]));replace ek:=J (cL (g:=n8) (o:=.cells #[.slice none 0 0,.slice none 0 0,.slice none 0 0,.int .i64 0] 27 (0,0)) (mK ek.1) hg (by simp[Value.ownBlock]));replace e7:=J (cL (g:=fc) (o:=.cells #[.slice none 0 0,.slice none 0 0,.slice none 0 0,.int .i64 0] 27 (0,0)) (mK e7.1) hg (by simp[Value.ownBlock]));replace HB:=J (hb);have kd:=J (ho);clear ho hb hg hat;refine hK.out _ _ (eN dz.1) (fun hHeld=>?_);clear hK K;refine dc 8 ?_;refine eO 5 (some 11) HT_.1 (mr [8,1,1,1]) (fun K hK=>?_);refine Kd.pe ak (w0:=w) w.heap.size rfl (.const (.slice none 0 0)) (.tmp 10) 25 89 (.agg #[(.string ⟨#[]⟩),(.int .i64 0)]) 24 rfl Tryz.underlying25 jr rfl (by decide) (by omega) (.slice none 0 0) ([]:List (ab)) ah _ _ _ (fun k_=>some k_≠(ub:Value).ownBlock) (fun _=>False) rfl rfl ?aO ?aR (fun _ _ h=>h) (fun _ h=>h.elim) ?aF ?aB ?aS ?aL ?_
     (case aR=>exact mC (Kd.az cO.1 HB.1))
     (case aB=>exact(aI HB.1 gv.1 gX.1 ji.1))
     (case aF=>exact(fun k_ hk=>Kd.jN (Kd.dK (mR kd.1)) k_ hk))
     (case aO=>exact((Kd.lS _ _ _ _ (fun k_=>some k_≠(ub:Value).ownBlock))))
     (case aS=>exact(aQ (aI HB.1 gv.1 gX.1 ji.1)))
     (case aL=>have:=vV.1;omega)
     intro Gk w9 ho hb hg hat;rw[←L7.1]at ho;replace dz:=J (cL (g:=jm) (o:=.cells #[.slice av aa.length al,.slice ar af.length an,.slice ao ah.length aq,.int .i64 ai] 27 (0,0)) (mK dz.1) hg (by simp[Value.ownBlock]));replace ek:=J (cL (g:=n8) (o:=.cells #[.slice none 0 0,.slice none 0 0,.slice none 0 0,.int .i64 0] 27 (0,0)) (mK ek.1) hg (by simp[Value.ownBlock]));replace e7:=J (cL (g:=fc) (o:=.cells #[.slice none 0 0,.slice none 0 0,.slice none 0 0,.int .i64 0] 27 (0,0)) (mK e7.1) hg (by simp[Value.ownBlock]));replace kd:=J (Kd.pd (Kd.Mc (mR kd.1)) hg hat);replace HB:=J (hb);have qe:=J (ho);clear ho hb hg hat;obtain⟨o4,pq,n5⟩:=Kd.bU qe.1
     (first|subst n5|(injection n5 with cy eb cA;have ec:=cy.symm;have ee:=cA.symm;clear cy eb cA;subst ec;subst ee))
     obtain⟨iZ,jd,uP⟩:=Kd.bU kd.1
     (first|subst uP|(injection uP with cy eb cA;have ec:=cy.symm;have ee:=cA.symm;clear cy eb cA;subst ec;subst ee))
     refine hK.out _ _ (eN dz.1) (fun hHeld=>?_);clear hK K;refine dc 11 ?_;refine aX 8 14 HT_.1 (mb 10 1) ?_;exact yW mU (hCont (.slice iZ jG.length jd,.slice o4 kE.length pq,fc) _ ⟨hHeld,(by refine mR ?_;exact Kd.aw kd.1 (fun _ hk=>hk.2)),(mR qe.1),(mK dz.1),(mK ek.1),(mK e7.1),zZ.1,ji.1,iy.1,qg.1,pc.1,qL.1,(aI HB.1 gv.1 gX.1 ji.1)⟩)
   rintro⟨ub,Gk,fc⟩ ej ⟨hS_,fH,fm,fo,fI,il,km,ko,kp,kr,ks,lv,sy⟩;have kd:Aside0 (Kd.R ak 89 ej w.heap.size (fun k_=>some k_≠(Gk:Value).ownBlock) ub jG):=⟨fH⟩;have qe:Aside0 (Kd.R ak 89 ej w.heap.size (fun k_=>some k_≠(ub:Value).ownBlock) Gk kE):=⟨fm⟩;replace dz:Aside0 (ej.heap[jm]? = some (.cells #[.slice av aa.length al,.slice ar af.length an,.slice ao ah.length aq,.int .i64 ai] 27 (0,0))):=⟨fo⟩;replace ek:Aside0 (ej.heap[n8]? = some (.cells #[.slice none 0 0,.slice none 0 0,.slice none 0 0,.int .i64 0] 27 (0,0))):=⟨fI⟩;have e7:Aside0 (ej.heap[fc]? = some (.cells #[.slice none 0 0,.slice none 0 0,.slice none 0 0,.int .i64 0] 27 (0,0))):=⟨il⟩;have zZ:Aside0 (w.heap.size≤fc):=⟨km⟩;have ji:Aside0 (w.heap.size≤fc):=⟨ko⟩;have iy:Aside0 (jm≠fc):=⟨kp⟩;have qg:Aside0 (fc≠jm):=⟨kr⟩;have pc:Aside0 (n8≠fc):=⟨ks⟩;have qL:Aside0 (fc≠n8):=⟨lv⟩;replace HB:Aside0 (Below w.heap.size w ej):=⟨sy⟩;clear fH fm fo fI il km ko kp kr ks lv sy;have hHeld:ej.cell? ⟨jm,0,none⟩=some (.slice av aa.length al)∧ej.cell? ⟨jm,1,none⟩=some (.slice ar af.length an)∧ej.cell? ⟨jm,2,none⟩=some (.slice ao ah.length aq)∧ej.cell? ⟨jm,3,none⟩=some (.int .i64 ai):=hS_;obtain⟨gB,gF,HY⟩:=Kd.bU qe.1
   (first|subst HY|(injection HY with cy eb cA;have ec:=cy.symm;have ee:=cA.symm;clear cy eb cA;subst ec;subst ee))
   obtain⟨iH,iJ,nt⟩:=Kd.bU kd.1
   (first|subst nt|(injection nt with cy eb cA;have ec:=cy.symm;have ee:=cA.symm;clear cy eb cA;subst ec;subst ee))
   refine pJ ?_;refine eO 10 none HT_.1 (mb 11 0) (fun K hK=>?_);have Xs:ej.cell? ⟨fc,0,none⟩=some (.slice none 0 0):=mZ e7.1 0;have V5:=dL e7.1 0;have Xj:=iy.1;have axJ:=pc.1;have WY:=qg.1;have av7:=qL.1;have ax0:ej.cell? ⟨fc,1,none⟩=some (.slice none 0 0):=mZ e7.1 1;have asV:=dL e7.1 1;have axK:=iy.1;have axL:=pc.1;have av8:=qg.1;have av9:=qL.1;have Xt:ej.cell? ⟨fc,2,none⟩=some (.slice none 0 0):=mZ e7.1 2;have V6:=dL e7.1 2;have Xk:=iy.1;have axM:=pc.1;have WZ:=qg.1;have awa:=qL.1;have Xu:ej.cell? ⟨fc,3,none⟩=some (.int .i64 0):=mZ e7.1 3;have V7:=dL e7.1 3;have Xl:=iy.1;have axN:=pc.1;have W0:=qg.1;have awb:=qL.1;refine oW (w1:=?_) (by rfl) rfl ?_ ?_
   rotate_left
   ·go_simp;rfl
   refine hK.out _ _ ⟨((cell_far (p:=⟨fc,_,none⟩) iy.1 _).trans (((cell_far (p:=⟨fc,_,none⟩) iy.1 _).trans (((cell_far (p:=⟨fc,_,none⟩) iy.1 _).trans (((cell_far (p:=⟨fc,_,none⟩) iy.1 _).trans (hHeld.1)))))))),((cell_far (p:=⟨fc,_,none⟩) iy.1 _).trans (((cell_far (p:=⟨fc,_,none⟩) iy.1 _).trans (((cell_far (p:=⟨fc,_,none⟩) iy.1 _).trans (((cell_far (p:=⟨fc,_,none⟩) iy.1 _).trans (hHeld.2.1)))))))),((cell_far (p:=⟨fc,_,none⟩) iy.1 _).trans (((cell_far (p:=⟨fc,_,none⟩) iy.1 _).trans (((cell_far (p:=⟨fc,_,none⟩) iy.1 _).trans (((cell_far (p:=⟨fc,_,none⟩) iy.1 _).trans (hHeld.2.2.1)))))))),((cell_far (p:=⟨fc,_,none⟩) iy.1 _).trans (((cell_far (p:=⟨fc,_,none⟩) iy.1 _).trans (((cell_far (p:=⟨fc,_,none⟩) iy.1 _).trans (((cell_far (p:=⟨fc,_,none⟩) iy.1 _).trans (hHeld.2.2.2))))))))⟩ (fun hHeld=>?_);clear hK K;refine eM (jX HT_.1 (by kernel_rfl)) ?_;have W3:=SH.1;have Xb:=SI.1;have Oc:=iy.1;have Of:=qg.1;obtain⟨It,Iu,NN,NO,IV,IW,NY,NZ⟩:=bP dz.1
   try go_wp2
   go_loopg [18] k (fun kq v18 w'=>∃(ga:Int) (qz:List (aj)) (u190000:Value),v18 = .int .i64 ga∧Aside0 (fJ.U kq aa (aa.length:Int) ga qz jG kE ai=some (r1,r2,r3,r4))∧Aside0 (kq≤k)∧Aside0 (Kd.S bf 63 w' w.heap.size (fun _=>True) u190000 qz)∧Aside0 (Kd.R ak 89 w' w.heap.size (fun k_=>some k_≠((.slice gB kE.length gF):Value).ownBlock) (.slice iH jG.length iJ) jG)∧Aside0 (Kd.R ak 89 w' w.heap.size (fun k_=>some k_≠((.slice iH jG.length iJ):Value).ownBlock) (.slice gB kE.length gF) kE)∧Aside0 (w'.heap[jm]? = some (.cells #[(.slice av aa.length al),(.slice ar af.length an),(.slice ao ah.length aq),.int .i64 ai] 27 (0,0)))∧Aside0 (w'.heap[n8]? = some (.cells #[(.slice none 0 0),(.slice none 0 0),(.slice none 0 0),.int .i64 0] 27 (0,0)))∧Aside0 (w'.heap[fc]? = some (.cells #[u190000,(.slice iH jG.length iJ),(.slice gB kE.length gF),.int .i64 ai] 27 (0,0)))∧Aside0 (Below w.heap.size w w'))
   case atStart=>exact⟨(0),(([]:List (aj))),(.slice none 0 0),mE,H',⟨Nat.le_refl _⟩,⟨by first|exact Kd.pg _ _ _ _ _|exact Kd.N_nil _ _ _ _ _|exact Kd.V_nil _ _ _ _ _|exact Kd.Q_nil _ _ _ _ _|exact Kd.lS _ _ _ _ _⟩,⟨by refine mR ?_;exact Kd.aw (cZ (Kd.bq kd.1 e7.1 (by decide))) (fun _ hk=>hk.1)⟩,⟨by refine mR ?_;exact Kd.aw (cZ (Kd.bq qe.1 e7.1 (by decide))) (fun _ hk=>hk.1)⟩,⟨dE iy.1 dz.1⟩,⟨dE pc.1 ek.1⟩,⟨by refine mK ?_;refine aN (cs:=#[.slice none 0 0,.slice iH jG.length iJ,.slice gB kE.length gF,.int .i64 0]) ?_ 3 _ rfl;refine mK ?_;refine aN (cs:=#[.slice none 0 0,.slice iH jG.length iJ,.slice none 0 0,.int .i64 0]) ?_ 2 _ rfl;refine mK ?_;refine aN (cs:=#[.slice none 0 0,.slice none 0 0,.slice none 0 0,.int .i64 0]) ?_ 1 _ rfl;refine mK ?_;refine aN (cs:=#[.slice none 0 0,.slice none 0 0,.slice none 0 0,.int .i64 0]) ?_ 0 _ rfl;refine mK ?_;exact e7.1⟩,⟨(aI HB.1 gv.1 gX.1 ji.1)⟩⟩
   case round=>
    clear H'
    try clear c2
    try clear c3
    try clear It
    try clear Iu
    try clear NN
    try clear NO
    try clear IV
    try clear IW
    try clear NY
    try clear NZ
    obtain⟨ga,qz,u190000,rfl,HA,bo,lN,rU,rV,dz,ek,e7,HB⟩:=hrel;cases gk with
    |zero=>exact absurd HA.1 (by simp[fJ.U])
    |succ k1=>
     have H:=HA.1;clear HA;simp only[fJ.U]at H;by_cases sn:ga<(aa.length:Int)
     ·rw[if_pos sn]at H;have TV:=decide_eq_true sn;clear sn;by_cases kP:0≤ga
      ·rw[if_pos kP]at H;have MI:=decide_eq_true kP;clear kP;by_cases lZ:ga<(aa.length:Int)
       ·rw[if_pos lZ]at H;have aeW:=decide_eq_true lZ;clear lZ;replace H:=Option.bind_eq_some_iff.mp H;obtain⟨t192,Re,H⟩:=H;replace H:(if qz.length<3518437208883 then (fJ.U k1 aa (aa.length:Int) (wrap64 (ga+1)) (qz++[(⟨(ae aa ga).f0,t192,(ae aa ga).f2⟩:aj)]) jG kE ai) else (none))=some (r1,r2,r3,r4):=H;have A25:=J Re;clear Re;by_cases po:qz.length<3518437208883
        ·rw[if_pos po]at H;have LJ:=J po;clear po;obtain⟨B0,EE⟩:∃y_:List (aj),y_=(qz++[(⟨(ae aa ga).f0,t192,(ae aa ga).f2⟩:aj)]):=⟨_,rfl⟩;replace H:(fJ.U k1 aa (aa.length:Int) (wrap64 (ga+1)) B0 jG kE ai)=some (r1,r2,r3,r4):=by first|(rw[EE];with_reducible exact H)|(have ay:=(Option.bind_some _ _).symm.trans H;rw[EE];with_reducible exact ay)|(have ay:=(Option.bind_some _ _).symm.trans H;with_reducible exact ay)|with_reducible exact H|(rw[EE];exact H)|exact H
         have adu:=J EE;clear EE;have H':=J H;clear H;have O2:0≤(ga:Int):=mD;have PA:ga<(aa.length:Int):=mD;obtain⟨Mp,Gv,Hk,afO,XE,XF,XG,WT,WI⟩:=kO cG.1 ga O2 PA;cases afO
         replace XE:=mX HB.1 XE;replace XF:=mX HB.1 XF;replace XG:=mX HB.1 XG;have ab6:=J WI;have aby:=J WT;clear WI WT;replace O2:=eq_true O2;replace PA:=eq_true PA;go_wp2_with (first|((with_reducible refine aM (N:=5) rfl ?_);refine bg 5 #[.int .i64 0,.slice none 0 0,.int .i64 0] 63 ?_;intro n9 hg mf hbox hb;replace lN:=J (Kd.nT (Kd.Tr (eX lN.1) n9 (Nat.le_of_eq hg.symm)) hb);replace rU:=J (Kd.bu (mR rU.1) hb);replace rV:=J (Kd.bu (mR rV.1) hb);have mj:=J (hbox);have aor:=mG hg (aI HB.1 gv.1 gX.1 ji.1);have xI:=mG hg (aI HB.1 gv.1 gX.1 ji.1);replace HB:=J (aA (aI HB.1 gv.1 gX.1 ji.1) hb);have LQ:=bY hg dz.1;have acx:=bX hg dz.1;replace dz:=mB dz hb;have LR:=bY hg ek.1;have acy:=bX hg ek.1;replace ek:=mB ek hb;have LS:=bY hg e7.1;have acz:=bX hg e7.1;replace e7:=mB e7 hb;clear hb hbox hg;have W4:=acx.1;have Xc:=LQ.1;have W5:=acy.1;have Xd:=LR.1;have awD:=acz.1;have axj:=LS.1;obtain⟨arz,arA,arB,auq,aur,aus⟩:=nF mj.1)|((with_reducible refine aH (f:=36) rfl ?_);refine cd 24 Tryz.func36 #[.slice Gv ((ae aa ga).f1).length Hk] ?_;(with_reducible refine(wU.calls _ _ ((ae aa ga).f1) t192 _ ?aE ?aG A25.1).mono ?_);(case aE=>exact Kd.az ab6.1 (eW HB.1 gv.1 gX.1 ji.1 xI.1));(case aG=>exact aby.1);rintro e w32 ⟨v193,rfl,bh,hb⟩;refine⟨_,rfl,?_⟩;replace lN:=J (Kd.Ao (by refine eX ?_;exact(Kd.eu (Ys (Kd.eu lN.1 (fun k_ hk=>(⟨hk,hk.2⟩:_∧k_≠n9)))) (fun _ h_=>h_.1))) (Kd.fB bh) hb);replace rU:=J (Kd.bu (by refine mR ?_;exact(Kd.aw (nE (Kd.bq rU.1 mj.1 (by decide))) (fun _ h_=>h_.1))) hb);replace rV:=J (Kd.bu (by refine mR ?_;exact(Kd.aw (nE (Kd.bq rV.1 mj.1 (by decide))) (fun _ h_=>h_.1))) hb);have xV:=J (Kd.bT bh (aQ (eW HB.1 gv.1 gX.1 ji.1 xI.1)));replace dz:=J (bj (g:=jm) (o:=.cells #[.slice (some Mp) aa.length al,.slice ar af.length an,.slice ao ah.length aq,.int .i64 ai] 27 (0,0)) (dE LQ.1 dz.1) hb);replace ek:=J (bj (g:=n8) (o:=.cells #[.slice none 0 0,.slice none 0 0,.slice none 0 0,.int .i64 0] 27 (0,0)) (dE LR.1 ek.1) hb);replace e7:=J (bj (g:=fc) (o:=.cells #[u190000,.slice iH jG.length iJ,.slice gB kE.length gF,.int .i64 ai] 27 (0,0)) (dE LS.1 e7.1) hb);replace mj:=J (bj (g:=n9) (o:=.cells #[.int .i64 ((ae aa ga).f0),.slice Gv ((ae aa ga).f1).length Hk,.int .i64 ((ae aa ga).f2)] 63 (0,0)) (by refine mK ?_;refine aN (cs:=#[.int .i64 ((ae aa ga).f0),.slice Gv ((ae aa ga).f1).length Hk,.int .i64 0]) ?_ 2 _ rfl;refine mK ?_;refine aN (cs:=#[.int .i64 ((ae aa ga).f0),.slice none 0 0,.int .i64 0]) ?_ 1 _ rfl;refine mK ?_;refine aN (cs:=#[.int .i64 0,.slice none 0 0,.int .i64 0]) ?_ 0 _ rfl;refine mK ?_;exact mj.1) hb);replace HB:=J (aA (eW HB.1 gv.1 gX.1 ji.1 xI.1) hb);(try clear hb);(try clear bh);obtain⟨nL,nZ,Ng⟩:=Kd.bU xV.1;subst Ng;obtain⟨ahQ,ahR,ahS,ai2,ai3,ai4⟩:=nF mj.1)|((with_reducible refine dM (t:=22) (p:=25) rfl ?_);refine Ke (t:=22) (p:=25) (v:=?azV) (w1:=(w32.setCell ⟨n9,1,none⟩ (.slice nL t192.length nZ))) ?hg ?ho ?hn ?hr ?_;(case ho=>rfl);(case hg=>rfl);(case hn=>rfl);(case hr=>first|(go_simp;done)|(go_simp;rfl));intro kA hw;have sO:Aside0 (Kd.S bf 63 kA w.heap.size (fun k_=>some k_≠(.slice nL t192.length nZ:Value).ownBlock∧k_≠n9) u190000 qz):=⟨(by rw[hw];exact(by refine eX ?_;exact Kd.eu (Kd.r9 (p:=⟨n9,1,none⟩) (Kd.eu lN.1 (fun k_ hk=>(⟨hk,hk.1.2⟩:_∧k_≠n9))) (fun _ hk=>hk.2) (.slice nL t192.length nZ)) (fun _ hk=>⟨hk.1.2,hk.1.1.2⟩)))⟩;have sQ:Aside0 (Kd.R ak 89 kA w.heap.size (fun k_=>some k_≠(.slice gB kE.length gF:Value).ownBlock) (.slice iH jG.length iJ) jG):=⟨(by rw[hw];exact(by refine mR ?_;exact Kd.aw (Kd.fC (p:=⟨n9,1,none⟩) (Kd.bq rU.1 mj.1 (by decide)) (fun _ hk=>hk.2) (.slice nL t192.length nZ)) (fun _ hk=>hk.1)))⟩;have sR:Aside0 (Kd.R ak 89 kA w.heap.size (fun k_=>some k_≠(.slice iH jG.length iJ:Value).ownBlock) (.slice gB kE.length gF) kE):=⟨(by rw[hw];exact(by refine mR ?_;exact Kd.aw (Kd.fC (p:=⟨n9,1,none⟩) (Kd.bq rV.1 mj.1 (by decide)) (fun _ hk=>hk.2) (.slice nL t192.length nZ)) (fun _ hk=>hk.1)))⟩;have sS:Aside0 (Kd.R (Kd.int .u8) 5 kA w.heap.size (fun _=>True) (.slice nL t192.length nZ) t192):=⟨(by rw[hw];exact(by refine mR ?_;exact Kd.aw (Kd.fC (p:=⟨n9,1,none⟩) (Kd.bq xV.1 mj.1 (by decide)) (fun _ hk=>hk.2) (.slice nL t192.length nZ)) (fun _ hk=>trivial)))⟩;have sT:Aside0 (kA.heap[jm]? = some (.cells #[.slice (some Mp) aa.length al,.slice ar af.length an,.slice ao ah.length aq,.int .i64 ai] 27 (0,0))):=⟨(by rw[hw];exact(dE LQ.1 dz.1))⟩;have sV:Aside0 (kA.heap[n8]? = some (.cells #[.slice none 0 0,.slice none 0 0,.slice none 0 0,.int .i64 0] 27 (0,0))):=⟨(by rw[hw];exact(dE LR.1 ek.1))⟩;have sW:Aside0 (kA.heap[fc]? = some (.cells #[u190000,.slice iH jG.length iJ,.slice gB kE.length gF,.int .i64 ai] 27 (0,0))):=⟨(by rw[hw];exact(dE LS.1 e7.1))⟩;have FU:Aside0 (kA.heap[n9]? = some (.cells #[.int .i64 ((ae aa ga).f0),.slice nL t192.length nZ,.int .i64 ((ae aa ga).f2)] 63 (0,0))):=⟨(by rw[hw];exact(by refine mK ?_;refine aN (cs:=#[.int .i64 ((ae aa ga).f0),.slice Gv ((ae aa ga).f1).length Hk,.int .i64 ((ae aa ga).f2)]) ?_ 1 _ rfl;refine mK ?_;exact mj.1))⟩;have Yv:Aside0 (Below w.heap.size w kA):=⟨(by rw[hw];exact(eW HB.1 gv.1 gX.1 ji.1 xI.1))⟩;clear hw;clear lN;clear rU;clear rV;clear xV;clear dz;clear ek;clear e7;clear mj;clear HB;have lN:=sO;have rU:=sQ;have rV:=sR;have xV:=sS;have dz:=sT;have ek:=sV;have e7:=sW;have mj:=FU;have HB:=Yv;clear sO sQ sR sS sT sV sW FU Yv;have ajN:=qg.1;have aj1:=iy.1;have W6:=qL.1;have Xe:=pc.1;obtain⟨ahT,ahU,ahV,ahW,ai5,ai6,ai7,ai8⟩:=bP e7.1;obtain⟨VP,VQ,VR,Wm,Wn,Wo⟩:=nF mj.1)|((with_reducible refine iK (b:=.append) (xs:=#[.tmp 27,.tmp 29]) rfl ?_);at_builtin;refine Kd.G4 bf (w0:=w) w.heap.size rfl (.tmp 27) (.tmp 29) 24 63 (.agg #[(.int .i64 0),(.slice none 0 0),(.int .i64 0)]) 40 rfl Tryz.underlying24 yQ rfl (by decide) (by omega) u190000 qz (⟨(ae aa ga).f0,t192,(ae aa ga).f2⟩:aj) [.int .i64 ((ae aa ga).f0),.slice nL t192.length nZ,.int .i64 ((ae aa ga).f2)] (fun k_=>k_≠n9) (fun k_=>some k_=(.slice nL t192.length nZ:Value).ownBlock) rfl rfl ?aP (fun k_ hk_=>((Kd.aw (ok':=fun k_=>((fun k_=>k_≠n9)) k_∧some k_≠(u190000:Value).ownBlock) (Kd.bq (Kd.wh (xV.1) (Kd.oJ lN.1) (by decide)) mj.1 (by decide)) (fun k_ hk=>⟨hk.2,hk.1.2⟩))).1 k_ hk_.symm) ?aF ?aO ?aB ?aS ?aL ?_;(case aP=>exact uZ _ _ _ (⟨(ae aa ga).f0,t192,(ae aa ga).f2⟩:aj) (Kd.aw (Kd.mu rfl (Kd.aw (ok':=fun k_=>((fun k_=>k_≠n9)) k_∧some k_≠(u190000:Value).ownBlock) (Kd.bq (Kd.wh (xV.1) (Kd.oJ lN.1) (by decide)) mj.1 (by decide)) (fun k_ hk=>⟨hk.2,hk.1.2⟩))) (fun _ h_=>h_)));(case aB=>exact(eW HB.1 gv.1 gX.1 ji.1 xI.1));(case aF=>exact(fun k_ hk=>Kd.fF (g:=n9) (o:=.cells #[.int .i64 ((ae aa ga).f0),.slice nL t192.length nZ,.int .i64 ((ae aa ga).f2)] 63 (0,0)) (mK mj.1) k_ hk));(case aO=>exact(by refine eX ?_;exact Kd.eu lN.1 (fun k_ hk=>⟨hk.2,fun e_=>hk.1 e_⟩)));(case aS=>exact(aQ (eW HB.1 gv.1 gX.1 ji.1 xI.1)));(case aL=>have:=LJ.1;omega);intro v196 QL ho hb hg hat;rw[←adu.1]at ho;replace rU:=J (Kd.tA (mR rU.1) (Kd.oJ (eX lN.1)) (by decide) hg);replace rV:=J (Kd.tA (mR rV.1) (Kd.oJ (eX lN.1)) (by decide) hg);replace dz:=J (cL (g:=jm) (o:=.cells #[.slice (some Mp) aa.length al,.slice ar af.length an,.slice ao ah.length aq,.int .i64 ai] 27 (0,0)) (mK dz.1) hg (Kd.uG lN.1 dz.1 (by decide)));replace ek:=J (cL (g:=n8) (o:=.cells #[.slice none 0 0,.slice none 0 0,.slice none 0 0,.int .i64 0] 27 (0,0)) (mK ek.1) hg (Kd.uG lN.1 ek.1 (by decide)));replace e7:=J (cL (g:=fc) (o:=.cells #[u190000,.slice iH jG.length iJ,.slice gB kE.length gF,.int .i64 ai] 27 (0,0)) (mK e7.1) hg (Kd.uG lN.1 e7.1 (by decide)));replace mj:=J (cL (g:=n9) (o:=.cells #[.int .i64 ((ae aa ga).f0),.slice nL t192.length nZ,.int .i64 ((ae aa ga).f2)] 63 (0,0)) (mK mj.1) hg (Kd.Tq lN.1 (fun _ hk=>hk.2)));replace HB:=J (hb);have RQ:=J (ho);clear lN;clear xV;clear ho hb hg hat;obtain⟨iw,iA,Ds⟩:=Kd.kF RQ.1;subst Ds;obtain⟨VS,VT,VU,VV,Wp,Wq,Wr,Ws⟩:=bP e7.1))
         go_roundg k1
         case measure=>have:=bo.1;omega
         case rel=>exact⟨(wrap64 (ga+1)),(B0),(.slice iw B0.length iA),mE,H',⟨by have:=bo.1;omega⟩,⟨by refine eX ?_;exact Kd.eu (Kd.r9 (p:=⟨fc,0,none⟩) (Kd.ln RQ.1 e7.1 (by decide)) (fun _ hk=>hk.2) (.slice iw B0.length iA)) (fun _ hk=>trivial)⟩,⟨by refine mR ?_;exact Kd.aw (Kd.fC (p:=⟨fc,0,none⟩) (Kd.bq rU.1 e7.1 (by decide)) (fun _ hk=>hk.2) (.slice iw B0.length iA)) (fun _ hk=>hk.1)⟩,⟨by refine mR ?_;exact Kd.aw (Kd.fC (p:=⟨fc,0,none⟩) (Kd.bq rV.1 e7.1 (by decide)) (fun _ hk=>hk.2) (.slice iw B0.length iA)) (fun _ hk=>hk.1)⟩,⟨dE iy.1 dz.1⟩,⟨dE pc.1 ek.1⟩,⟨by refine mK ?_;refine aN (cs:=#[u190000,.slice iH jG.length iJ,.slice gB kE.length gF,.int .i64 ai]) ?_ 0 _ rfl;refine mK ?_;exact e7.1⟩,⟨(eW HB.1 gv.1 gX.1 ji.1 xI.1)⟩⟩
        ·rw[if_neg po]at H;exact absurd H (by simp)
       ·rw[if_neg lZ]at H;exact absurd H (by simp)
      ·rw[if_neg kP]at H;exact absurd H (by simp)
     ·rw[if_neg sn]at H;have TV:=decide_eq_false sn;clear sn;simp only[Option.some.injEq,Prod.mk.injEq]at H;obtain⟨rfl,rfl,rfl,rfl⟩:=H;have ajO:=qg.1;have aj2:=iy.1;have ajP:=qL.1;have aj3:=pc.1;obtain⟨arP,arQ,arR,arS,auH,auI,auJ,auK⟩:=bP e7.1;obtain⟨o5,pt,Dt⟩:=Kd.kF lN.1;subst Dt;have W8:=SI.1;have Xg:=SH.1;obtain⟨Iv,Iw,Ix,Iy,IX,IY,IZ,I0⟩:=bP ek.1;go_wp2;refine bodyPost_ret (results_cell_row rfl _ _ n8 27 #[.slice o5 qz.length pt,.slice iH jG.length iJ,.slice gB kE.length gF,.int .i64 ai] (0,0) _ rfl (by refine mK ?_;refine aN (cs:=#[.slice o5 qz.length pt,.slice iH jG.length iJ,.slice gB kE.length gF,.int .i64 0]) ?_ 3 _ rfl;refine mK ?_;refine aN (cs:=#[.slice o5 qz.length pt,.slice iH jG.length iJ,.slice none 0 0,.int .i64 0]) ?_ 2 _ rfl;refine mK ?_;refine aN (cs:=#[.slice o5 qz.length pt,.slice none 0 0,.slice none 0 0,.int .i64 0]) ?_ 1 _ rfl;refine mK ?_;refine aN (cs:=#[.slice none 0 0,.slice none 0 0,.slice none 0 0,.int .i64 0]) ?_ 0 _ rfl;refine mK ?_;exact ek.1) Tryz.underlying27 rfl (by kernel_rfl)) rfl ?_;exact⟨_,_,_,cP,by refine eX ?_;exact Kd.eu (pI (Kd.ln lN.1 ek.1 (by decide))) (fun _ hk=>trivial),by refine mR ?_;exact Kd.aw (cZ (Kd.bq rU.1 ek.1 (by decide))) (fun _ hk=>hk.1),by refine mR ?_;exact Kd.aw (cZ (Kd.bq rV.1 ek.1 (by decide))) (fun _ hk=>hk.1),(aI HB.1 gv.1 gX.1 ji.1)⟩
  ·rw[if_neg c3]at H;exact absurd H (by simp)
 ·rw[if_neg c2]at H;exact absurd H (by simp)
end Go.Proofs.YtingkpnoiekliaaGreat.MZ
end
