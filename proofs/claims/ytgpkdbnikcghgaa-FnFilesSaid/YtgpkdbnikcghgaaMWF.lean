/- The walk of the law FnFiles. -/
import Derived.Test.YtgpkdbnikcghgaaMWD
import Derived.Test.YtgpkdbnikcghgaaMPF
namespace Go.Proofs.Ytgpkdbnikcghgaa.MD
open Go.RowKit Go.Proofs.YtgpkdbnikcghgaaW.PrintWords Go.Proofs.YtgpkdbnikcghgaaW.PrintLast Go.Proofs.YtgpkdbnikcghgaaW.PrintMore Go.Proofs.Ytgpkdbnikcghgaa.MWords Go.Proofs.Ytgpkdbnikcghgaa.MPD
set_option linter.unusedVariables false
set_option linter.unusedSimpArgs false
section
variable {w:World} {A:Option Addr} {c:Nat} {l:List Int}
theorem ako (hr:Kd.C (Kd.int .u8) w A l.length l) (hc:l.length≤c) (hl:l.length≤1048576):Calls Try.prog 34 #[.slice A l.length c] w (fun e w'=>∃A c b,e = .returned (.slice A b.length c)∧(ju b∧b.length≤9)∧Rb w w' A c b):=by
 obtain⟨b,hb,K,hk⟩:=aiX l hl;refine(Jp.calls K A c l b w hr hc (hk K (Nat.le_refl _))).mono (fun e w' ⟨v0,he,h0,dV⟩=>?_);obtain⟨A,c,rfl,r⟩:=UZ h0 dV;exact⟨A,c,b,he,hb,r⟩
theorem Lv {i:Nat} {v:Int} (e:D6.f l (i:Int)=some v) (hr:Kd.C (Kd.int .u8) w A l.length l) (hc:l.length≤c):Calls Try.prog 39 #[.slice A l.length c,.int .i64 (i:Int)] w (fun e w'=>e = .returned (.int .i64 v)∧Below w.heap.size w w'):=
 (D6.calls A c l i v w hr hc e).mono (fun e w' ⟨he,m,hd⟩=>⟨he,by subst hd;exact gZ (Below.refl _ _) m⟩)
theorem ZA (hr:Kd.C (Kd.int .u8) w A l.length l) (hc:l.length≤c):Calls Try.prog 32 #[.slice A l.length c] w (fun e w'=>e = .returned (.bool (decide ((l.length:Int)>1048576)))∧Below w.heap.size w w'):=
 (MP.calls A c l _ w hr hc (ahZ l)).mono (fun e w' ⟨he,m,hd⟩=>⟨he,by subst hd;exact gZ (Below.refl _ _) m⟩)
theorem akx {A':Option Addr} {c':Nat} (hr:Kd.C (Kd.int .u8) w A l.length l) (hc:l.length≤c) (hr':Kd.C (Kd.int .u8) w A' l.length l) (hc':l.length≤c') (hl:l.length≤1048576):Calls Try.prog 41 #[.slice A l.length c,.slice A' l.length c'] w (fun e w'=>e = .returned (.bool true)∧Below w.heap.size w w'):=by
 obtain⟨K,hk⟩:=apL l hl;exact(qD.calls K A c l A' c' l true w hr hc hr' hc' (hk K (Nat.le_refl _))).mono (fun e w' ⟨he,m,hd⟩=>⟨he,by subst hd;exact gZ (Below.refl _ _) m⟩)
end
theorem ajY {ops:Array Oper} {rest:List Oper} {o:Oper} {a:Act} {Q:Exit→Act→World→Prop} {W:World} {t:TypeId} {p:Operand} (_ho:o.op = .load t p) (h:wpList Try.prog ops Q (o::rest) a W):wpList Try.prog ops Q (o::rest) a W:=h
theorem nX {n:Nat}:∀k,n≤k→¬(fun _:Nat=>False) k:=fun _ _ h=>h
set_option maxHeartbeats 8000000 in
set_option maxRecDepth 100000 in
theorem akn {w : World} {A : Option Addr} {c : Nat} {l : List Int} (hr : Kd.C (Kd.int .u8) w A l.length l) (hc : l.length ≤ c) (hb8 : ju l) : Calls Try.prog 9 #[.slice A l.length c] w (fun e w' => e = .returned (.bool true) ∧ Below w.heap.size w w') := by
  have HS := St.start w (fun _ => False)
  by_cases hl : (l.length : Int) > 1048576
  · have hd := J (decide_eq_true hl)
    go_enter Try.func9, Try.ntmps9
    go_wp2_with (first | ((with_reducible refine bo (f := 32) rfl ?_); refine iy Try.func32 (ZA hr hc) ?_; rintro e w1 ⟨rfl, hb⟩; refine ⟨_, rfl, ?_⟩; replace HS := HS.below hb; clear hb; rw [hd.1]))
    go_ret
    exact ⟨rfl, HS.be⟩
  have hd := J (decide_eq_false hl)
  have Tc : l.length ≤ 1048576 := by omega
  clear hl
  obtain ⟨v, ev, hv⟩ := ahW l hb8 Tc 2 (by decide)
  have zJ : 0 ≤ Int.tmod v 9 ∧ Int.tmod v 9 ≤ 9223372036854775807 := by rw [Int.tmod_eq_emod_of_nonneg hv.1]; omega
  clear hv
  replace ev := J ev
  go_enter Try.func9, Try.ntmps9
  go_wp2_with (first | ((with_reducible refine bo (f := 32) rfl ?_); refine iy Try.func32 (ZA hr hc) ?_; rintro e w1 ⟨rfl, hb⟩; refine ⟨_, rfl, ?_⟩; replace HS := HS.below hb; clear hb; rw [hd.1]) | ((with_reducible refine bo (f := 33) rfl ?_); refine iy Try.func33 (akl (Kd.aE hr HS.be) hc Tc) ?_; rintro e w1 ⟨cs, d, rfl, hG, hR⟩; refine ⟨_, rfl, ?_⟩; replace HS := (HS.call hR.2 hR.1 nX).imp (fun _ h => h.2); clear hR; replace hG := J hG) | ((with_reducible refine bk (N := 3) rfl ?_); refine bF 3 qF 30 ?_; intro g3 hg w1 hx hb; replace HS := HS.box hg hx hb rfl; clear hb hx hg) | ((with_reducible refine bk (N := 5) rfl ?_); refine bF 5 qF 30 ?_; intro g5 hg w1 hx hb; replace HS := HS.box hg hx hb rfl; clear hb hx hg) | ((with_reducible refine bk (N := 7) rfl ?_); refine bF 7 qF 30 ?_; intro g7 hg w1 hx hb; replace HS := HS.box hg hx hb rfl; clear hb hx hg) | ((with_reducible refine oV rfl ?_); (first | refine pZ 0 HS HS.q ?_ | refine pZ 1 HS HS.q ?_ | refine pZ 2 HS HS.q ?_); intro w1 HT; replace HS := HT; clear HT; simp only [List.set] at HS) | ((with_reducible refine oV rfl ?_); (first | refine pZ 0 HS HS.q.2 ?_ | refine pZ 1 HS HS.q.2 ?_ | refine pZ 2 HS HS.q.2 ?_); intro w1 HT; replace HS := HT; clear HT; simp only [List.set] at HS) | (first | refine lv 0 HS ?_ | refine lv 1 HS ?_ | refine lv 2 HS ?_ | refine lv 3 HS ?_) | ((with_reducible refine bo (f := 34) rfl ?_); refine iy Try.func34 (ako (Kd.aE hr HS.be) hc Tc) ?_; rintro e w1 ⟨Ab, cb, body, rfl, hbd, hR⟩; refine ⟨_, rfl, ?_⟩; have hbc := hR.1; replace HS := (HS.call hR.2.2 hR.2.1 nX).imp (fun _ h => h); clear hR) | ((with_reducible refine bo (f := 35) rfl ?_); refine iy Try.func35 (aix (nm := own) HS.q.1 hG.1.ok.small.1 BQ.2.2) ?_; rintro e w1 ⟨c1, rfl, hR⟩; refine ⟨_, rfl, ?_⟩; generalize kv : pS _ _ _ _ own = r1 at hR ⊢; replace HS := (HS.call hR.2 hR.1 nX).imp (fun _ h => h); clear hR; replace kv := J kv; cases hz : (r1.2.2.2.2 != 0); all_goals (try (have hO := J (apg hG.1 BQ.1 BQ.2.1 kv.1 (by simpa using hz))))) | ((with_reducible refine bo (f := 36) rfl ?_); refine iy Try.func36 (ads (nm := own) HS.q.1.1 hG.1.ok.small.1 BQ.2.2) ?_; rintro e w1 ⟨c2, rfl, hR⟩; refine ⟨_, rfl, ?_⟩; rw [kv.1] at hR ⊢; replace HS := (HS.call hR.2 hR.1 nX).imp (fun _ h => And.intro (And.intro h.1.1.1 h.1.2) h.2); clear hR) | ((with_reducible refine bo (f := 25) rfl ?_); refine iy Try.func25 (YO (nm := own) HS.q.2 hO.1.1.ok.small.1 BQ.2.2 hO.1.1.ok.small.2 (Nat.le_trans hbd.2 (by decide)) HS.q.1.2 hbc) ?_; rintro e w1 ⟨c2, rfl, hR⟩; refine ⟨_, rfl, ?_⟩; generalize uH : sx _ _ _ _ own _ = r2 at hR ⊢; replace HS := (HS.call hR.2 hR.1 nX).imp (fun _ h => And.intro h.1.1.2 h.2); clear hR; have hA := ac7 hO.1.1 (by have := hbd.2; omega) uH; replace hO := hO.1.2; rw [← hA.2] at hO; replace hO := J (And.intro hA.1 hO); clear hA uH) | ((with_reducible refine bo (f := 22) rfl ?_); refine iy Try.func22 (aiz (nm := own) HS.q.2 hO.1.1.ok.small.1 BQ.2.2) ?_; rintro e w1 ⟨c3, rfl, hR⟩; refine ⟨_, rfl, ?_⟩; generalize hr3 : tA _ _ _ _ own = r3 at hR ⊢; replace HS := (HS.call hR.2 hR.1 nX).imp (fun _ h => And.intro h.1.1 h.2); clear hR; have hA := apl hO.1.1 hr3; replace hO := hO.1.2; rw [← hA.2] at hO; replace hO := J (And.intro hA.1 hO); clear hA hr3))
  · obtain ⟨r4, DV⟩ : ∃ r, pt (bS (ix r3).f0 (ix r3).f1 (ix r3).f2 (ix r3).f3) (ix r3).f0 (ix r3).f1 (ix r3).f2 (ix r3).f3 (Int.tmod v 9) = r := ⟨_, rfl⟩
    have hL := J (ajV hO.1.1.ok hO.1.2 zJ.1 DV rfl)
    replace DV := J DV
    refine ee (n := 7) (S := fun W => W.heap[g5]? = some (.cells c3 30 (0, 0))) (ds := [6]) (mb 0 7) (by kernel_rfl) rfl rfl (HS.bx _ (.head _)).2.2 (fun hh => ?_); replace HS := HS.drew
    refine rP 1 (mr [0, 1, 1, 5]) ?_; refine rL 0 (mb 2 5) hh (fun _ h => h) (HS.bx _ (.head _)).2.1 ?_
    refine pB (σ := Nat × Array Value) 1 (mb 6 1) (fun s => [(58, .int .i64 v), (59, .int .i64 (Int.tmod v 9)), (60, .agg s.2), (9, .pointer (some ⟨s.1, 0, none⟩))]) (fun s W => W.heap[g5]? = some (.cells c3 30 (0, 0)) ∧ St w (fun _ => False) ((s.1, qF) :: [(g5, c3), (g3, cs)]) (fun W => (Kd.C (Kd.int .u8) W Ab body.length body ∧ eY c3 (ix r3) W) ∧ eY s.2 (tC r4) W) W) ?_ (fun hCont => ?_)
    rotate_left
    · refine rW (i := 2) (j := 5) (Ni := some 58) (Nj := some 9) (mb 3 4) (mr [2, 3, 1, 1]) rfl rfl rfl rfl (by kernel_rfl) (by decide) (by decide) (fun K hK => ?_) (fun K hK => ?_)
      · refine kC Try.func39 (Lv (i := 2) ev.1 (Kd.aE hr HS.be) hc) ?_; rintro e w1 ⟨rfl, hb⟩; replace HS := HS.below hb; clear hb; refine ⟨_, rfl, hK.out _ _ (HS.bx _ (.head _)).2.2 (fun hh => rN ?_)⟩; clear hK K
        refine rP 3 (mb 4 3) ?_
        refine rW (i := 4) (j := 5) (Ni := some 60) (Nj := some 9) (mb 5 2) (mr [4, 1, 1, 1]) rfl rfl rfl rfl (by kernel_rfl) (by decide) (by decide) (fun K hK => ?_) (fun K hK => ?_)
        · refine kC Try.func38 (Dz HS.q.2 hO.1.1.ok.small.1 hO.1.1.ok.small.2 zJ.2 DV.1) ?_; rintro e w1 ⟨c4, rfl, hR⟩; replace HS := HS.call hR.2 hR.1 nX; clear hR; refine ⟨_, rfl, hK.out _ _ (HS.bx _ (.head _)).2.2 (fun hh => rN ?_)⟩; clear hK K
          refine rB 5 (mb 6 1) qF 30 (fun g9 hg w1 hx hb => ?_); replace HS := HS.box hg hx hb rfl; clear hb hx hg; refine ⟨(HS.bx _ (.tail _ (.head _))).2.2, fun hh => rN ?_⟩; exact hCont (g9, c4) _ ⟨(HS.bx _ (.tail _ (.head _))).2.2, HS⟩
        · refine kB qF 30 (fun g9 hg w1 hx hb => ?_); replace HS := HS.box hg hx hb rfl; clear hb hx hg; refine hK.out _ _ (HS.bx _ (.tail _ (.head _))).2.2 (fun hh => rN ?_); clear hK K
          refine rC 4 (mb 6 1) Try.func38 (Dz HS.q.2 hO.1.1.ok.small.1 hO.1.1.ok.small.2 zJ.2 DV.1) ?_; rintro e w1 ⟨c4, rfl, hR⟩; replace HS := HS.call hR.2 hR.1 nX; clear hR; refine ⟨_, rfl, (HS.bx _ (.tail _ (.head _))).2.2, fun hh => rN ?_⟩; exact hCont (g9, c4) _ ⟨(HS.bx _ (.tail _ (.head _))).2.2, HS⟩
      · refine kB qF 30 (fun g9 hg w1 hx hb => ?_); replace HS := HS.box hg hx hb rfl; clear hb hx hg; refine hK.out _ _ (HS.bx _ (.tail _ (.head _))).2.2 (fun hh => rN ?_); clear hK K
        refine rC 2 (mr [3, 2, 1, 1]) Try.func39 (Lv (i := 2) ev.1 (Kd.aE hr HS.be) hc) ?_; rintro e w1 ⟨rfl, hb⟩; replace HS := HS.below hb; clear hb; refine ⟨_, rfl, (HS.bx _ (.tail _ (.head _))).2.2, fun hh => rN ?_⟩
        refine rP 3 (mr [4, 1, 1, 1]) ?_; refine rC 4 (mb 6 1) Try.func38 (Dz HS.q.2 hO.1.1.ok.small.1 hO.1.1.ok.small.2 zJ.2 DV.1) ?_; rintro e w1 ⟨c4, rfl, hR⟩; replace HS := HS.call hR.2 hR.1 nX; clear hR; refine ⟨_, rfl, (HS.bx _ (.tail _ (.head _))).2.2, fun hh => rN ?_⟩; exact hCont (g9, c4) _ ⟨(HS.bx _ (.tail _ (.head _))).2.2, HS⟩
    clear HS hh
    rintro ⟨g9, c4⟩ w1 ⟨hh, HS⟩
    refine lh ?_
    refine rS 6 (mb 7 0) (HS.bx _ (.head _)).2.2 rfl HS.q.2 ?_; replace HS := HS.set 0 rfl HS.q.2.size; simp only [List.set] at HS; refine ec (by kernel_rfl) ?_
    go_wp2_with (first | (first | refine lv 0 HS ?_ | refine lv 1 HS ?_ | refine lv 2 HS ?_ | refine lv 3 HS ?_) | ((with_reducible refine bo (f := 40) rfl ?_); refine iy Try.func40 (YP HS.q.2 hL.1.1.small.1 hL.1.1.small.2 hL.1.2) ?_; rintro e w1 ⟨A1, k1, rfl, hR⟩; refine ⟨_, rfl, ?_⟩; replace HS := HS.below hR.2.2; clear hR) | ((with_reducible refine bo (f := 20) rfl ?_); refine iy Try.func20 (aiA HS.q.1.2 hO.1.1.ok.small.1) ?_; rintro e w1 ⟨c5, rfl, hR⟩; refine ⟨_, rfl, ?_⟩; generalize DW : uU _ _ _ _ = r5 at hR ⊢; replace HS := (HS.call hR.2 hR.1 nX).imp (fun _ h => And.intro (And.intro h.1.1.1 h.1.2) h.2); clear hR; replace hO := J (apm hO.1.1 DW); clear DW) | ((with_reducible refine oV rfl ?_); (first | refine pZ 0 HS HS.q.2 ?_ | refine pZ 1 HS HS.q.2 ?_ | refine pZ 2 HS HS.q.2 ?_); intro w1 HT; replace HS := HT; clear HT; simp only [List.set] at HS) | ((with_reducible refine bk (N := 73) rfl ?_); refine aqq [1, 2, 3] ?_; intro A2 k2 w1 hR; replace HS := HS.call hR.2.2 hR.2.1 nX; have BC := hR.1; clear hR) | ((with_reducible refine bo (f := 25) rfl ?_); refine iy Try.func25 (YO (nm := own) (b := [1, 2, 3]) HS.q.1.2 hO.1.1.ok.small.1 BQ.2.2 hO.1.1.ok.small.2 (by decide) HS.q.2 BC) ?_; rintro e w1 ⟨c6, rfl, hR⟩; refine ⟨_, rfl, ?_⟩; generalize hr6 : sx _ _ _ _ own _ = r6 at hR ⊢; replace HS := (HS.call hR.2 hR.1 nX).imp (fun _ h => And.intro h.1.1.1 h.2); clear hR; have hA := ac7 hO.1.1 (by have := hbd.2; simp only [List.length_cons, List.length_nil]; omega) hr6; replace hO := hO.1.2; rw [← hA.2] at hO; replace hO := J (And.intro hA.1 hO); clear hA hr6))
    obtain ⟨r7, DX⟩ : ∃ r, pt (bS (ix r6).f0 (ix r6).f1 (ix r6).f2 (ix r6).f3) (ix r6).f0 (ix r6).f1 (ix r6).f2 (ix r6).f3 (Int.tmod v 9) = r := ⟨_, rfl⟩
    have hK := J (ajU hO.1.1 hO.1.2 zJ.1 DX rfl)
    replace DX := J DX
    refine ee (n := 7) (S := fun W => W.heap[g5]? = some (.cells c6 30 (0, 0))) (ds := [6]) (mb 0 7) (by kernel_rfl) rfl rfl (HS.bx _ (.tail _ (.head _))).2.2 (fun hh => ?_); replace HS := HS.drew
    refine rP 1 (mr [0, 1, 1, 5]) ?_; refine rL 0 (mb 2 5) hh (fun _ h => h) (HS.bx _ (.tail _ (.head _))).2.1 ?_
    refine pB (σ := Nat × Array Value) 1 (mb 6 1) (fun s => [(79, .int .i64 v), (80, .int .i64 (Int.tmod v 9)), (81, .agg s.2), (12, .pointer (some ⟨s.1, 0, none⟩))]) (fun s W => W.heap[g5]? = some (.cells c6 30 (0, 0)) ∧ St w (fun _ => False) ((s.1, qF) :: [(g9, c4), (g5, c6), (g3, cs)]) (fun W => ((Kd.C (Kd.int .u8) W Ab body.length body ∧ eY c4 (tC r4) W) ∧ eY c6 (ix r6) W) ∧ eY s.2 (tC r7) W) W) ?_ (fun hCont => ?_)
    rotate_left
    · refine rW (i := 2) (j := 5) (Ni := some 79) (Nj := some 12) (mb 3 4) (mr [2, 3, 1, 1]) rfl rfl rfl rfl (by kernel_rfl) (by decide) (by decide) (fun K hK => ?_) (fun K hK => ?_)
      · refine kC Try.func39 (Lv (i := 2) ev.1 (Kd.aE hr HS.be) hc) ?_; rintro e w1 ⟨rfl, hb⟩; replace HS := HS.below hb; clear hb; refine ⟨_, rfl, hK.out _ _ (HS.bx _ (.tail _ (.head _))).2.2 (fun hh => rN ?_)⟩; clear hK K
        refine rP 3 (mb 4 3) ?_
        refine rW (i := 4) (j := 5) (Ni := some 81) (Nj := some 12) (mb 5 2) (mr [4, 1, 1, 1]) rfl rfl rfl rfl (by kernel_rfl) (by decide) (by decide) (fun K hK => ?_) (fun K hK => ?_)
        · refine kC Try.func38 (Dz HS.q.2 hO.1.1.ok.small.1 hO.1.1.ok.small.2 zJ.2 DX.1) ?_; rintro e w1 ⟨c7, rfl, hR⟩; replace HS := HS.call hR.2 hR.1 nX; clear hR; refine ⟨_, rfl, hK.out _ _ (HS.bx _ (.tail _ (.head _))).2.2 (fun hh => rN ?_)⟩; clear hK K
          refine rB 5 (mb 6 1) qF 30 (fun g12 hg w1 hx hb => ?_); replace HS := HS.box hg hx hb rfl; clear hb hx hg; refine ⟨(HS.bx _ (.tail _ (.tail _ (.head _)))).2.2, fun hh => rN ?_⟩; exact hCont (g12, c7) _ ⟨(HS.bx _ (.tail _ (.tail _ (.head _)))).2.2, HS⟩
        · refine kB qF 30 (fun g12 hg w1 hx hb => ?_); replace HS := HS.box hg hx hb rfl; clear hb hx hg; refine hK.out _ _ (HS.bx _ (.tail _ (.tail _ (.head _)))).2.2 (fun hh => rN ?_); clear hK K
          refine rC 4 (mb 6 1) Try.func38 (Dz HS.q.2 hO.1.1.ok.small.1 hO.1.1.ok.small.2 zJ.2 DX.1) ?_; rintro e w1 ⟨c7, rfl, hR⟩; replace HS := HS.call hR.2 hR.1 nX; clear hR; refine ⟨_, rfl, (HS.bx _ (.tail _ (.tail _ (.head _)))).2.2, fun hh => rN ?_⟩; exact hCont (g12, c7) _ ⟨(HS.bx _ (.tail _ (.tail _ (.head _)))).2.2, HS⟩
      · refine kB qF 30 (fun g12 hg w1 hx hb => ?_); replace HS := HS.box hg hx hb rfl; clear hb hx hg; refine hK.out _ _ (HS.bx _ (.tail _ (.tail _ (.head _)))).2.2 (fun hh => rN ?_); clear hK K
        refine rC 2 (mr [3, 2, 1, 1]) Try.func39 (Lv (i := 2) ev.1 (Kd.aE hr HS.be) hc) ?_; rintro e w1 ⟨rfl, hb⟩; replace HS := HS.below hb; clear hb; refine ⟨_, rfl, (HS.bx _ (.tail _ (.tail _ (.head _)))).2.2, fun hh => rN ?_⟩
        refine rP 3 (mr [4, 1, 1, 1]) ?_; refine rC 4 (mb 6 1) Try.func38 (Dz HS.q.2 hO.1.1.ok.small.1 hO.1.1.ok.small.2 zJ.2 DX.1) ?_; rintro e w1 ⟨c7, rfl, hR⟩; replace HS := HS.call hR.2 hR.1 nX; clear hR; refine ⟨_, rfl, (HS.bx _ (.tail _ (.tail _ (.head _)))).2.2, fun hh => rN ?_⟩; exact hCont (g12, c7) _ ⟨(HS.bx _ (.tail _ (.tail _ (.head _)))).2.2, HS⟩
    clear HS hh
    rintro ⟨g12, c7⟩ w1 ⟨hh, HS⟩
    refine lh ?_
    refine rS 6 (mb 7 0) (HS.bx _ (.head _)).2.2 rfl HS.q.2 ?_; replace HS := HS.set 0 rfl HS.q.2.size; simp only [List.set] at HS; refine ec (by kernel_rfl) ?_
    obtain ⟨bs, hB, hbs, hbt⟩ : ∃ bs, sy (bS (tC r7).f0 (tC r7).f1 (tC r7).f2 (tC r7).f3) (tC r7).f0 (tC r7).f1 own = (bs, true) ∧ body.length ≤ bs.length ∧ bs.take body.length = body := by
      obtain ⟨_, n, hn, hb⟩ := hK.out
      have h1 : body.length ≤ n := by simp only [List.nil_append] at hn; omega
      exact ⟨_, hb, by simp only [List.length_take, List.length_append, List.nil_append]; omega, by rw [List.take_take, Nat.min_eq_left h1, List.nil_append, List.take_left]⟩
    replace hB := J hB
    go_wp2_with (first | (first | refine lv 0 HS ?_ | refine lv 1 HS ?_ | refine lv 2 HS ?_ | refine lv 3 HS ?_) | ((with_reducible refine bo (f := 40) rfl ?_); refine iy Try.func40 (YP HS.q.2 hK.out.1.small.1 hK.out.1.small.2 hB.1) ?_; rintro e w1 ⟨A1, k1, rfl, hR⟩; refine ⟨_, rfl, ?_⟩; have Ml := hR.1; replace HS := HS.call hR.2.2 hR.2.1 nX; clear hR) | ((with_reducible refine ajY rfl ?_); (try (refine xI (by rfl) ?_; dsimp only)); (first | refine lv 0 HS ?_ | refine lv 1 HS ?_)) | ((with_reducible refine bo (f := 41) rfl ?_); (try (refine xI (by rfl) ?_; dsimp only)); refine iy Try.func41 (akx (by have hT := Kd.J0 HS.q.2 hbs; rwa [hbt] at hT) (Nat.le_trans hbs Ml) HS.q.1.1.1.1 hbc (Nat.le_trans hbd.2 (by decide))) ?_; rintro e w1 ⟨rfl, hb⟩; refine ⟨_, rfl, ?_⟩; replace HS := HS.below hb; clear hb) | ((with_reducible refine bo (f := 42) rfl ?_); (try (refine xI (by rfl) ?_; dsimp only)); refine iy Try.func42 (YQ HS.q.1.2 hK.out.1.small.1) ?_; rintro e w1 ⟨rfl, hb⟩; refine ⟨_, rfl, ?_⟩; replace HS := HS.below hb; clear hb; rw [vX.2 hK.out.1]) | ((with_reducible refine bo (f := 42) rfl ?_); (try (refine xI (by rfl) ?_; dsimp only)); refine iy Try.func42 (YQ HS.q.1.1.1.2 hL.1.1.small.1) ?_; rintro e w1 ⟨rfl, hb⟩; refine ⟨_, rfl, ?_⟩; replace HS := HS.below hb; clear hb; rw [vX.2 hL.1.1]))
    go_ret
    exact ⟨rfl, HS.be⟩
  · have he := aiR kv.1 hz
    replace HS := HS.imp (fun W h => (show eY cs d W ∧ eY c1 d W from ⟨h.1.1, he ▸ h.1.2⟩))
    refine ee (n := 13) (S := fun W => W.heap[g5]? = some (.cells c1 30 (0, 0)) ∧ W.heap[g3]? = some (.cells cs 30 (0, 0))) (ds := []) (mb 0 13) (by kernel_rfl) rfl rfl ⟨(HS.bx _ (.tail _ (.head _))).2.2, (HS.bx _ (.tail _ (.tail _ (.head _)))).2.2⟩ (fun hh => ?_); replace HS := HS.drew
    refine rP 0 (mb 1 12) ?_; refine rP 1 (mb 2 11) ?_; refine rP 2 (mb 3 10) ?_; refine rP 3 (mb 4 9) ?_
    refine rL 4 (mb 5 8) hh (fun _ h => h.1) (HS.bx _ (.tail _ (.head _))).2.1 ?_; refine rL 7 (mr [5, 2, 1, 5]) hh (fun _ h => h.2) (HS.bx _ (.tail _ (.tail _ (.head _)))).2.1 ?_
    refine rC 5 (mr [6, 1, 1, 5]) Try.func37 (YR HS.q.2 hG.1.ok.small.1 hG.1.ok.small.2) ?_; rintro e w2 ⟨A1, k1, rfl, hb⟩; replace HS := HS.below hb; refine ⟨_, rfl, ⟨(HS.bx _ (.tail _ (.head _))).2.2, (HS.bx _ (.tail _ (.tail _ (.head _)))).2.2⟩, fun hh => rN ?_⟩
    refine rP 6 (mb 8 5) ?_; refine rC 8 (mb 9 4) Try.func37 (YR HS.q.1 hG.1.ok.small.1 hG.1.ok.small.2) ?_; rintro e w3 ⟨A2, k2, rfl, hb⟩; replace HS := HS.below hb; refine ⟨_, rfl, ⟨(HS.bx _ (.tail _ (.head _))).2.2, (HS.bx _ (.tail _ (.tail _ (.head _)))).2.2⟩, fun hh => rN ?_⟩
    refine rP 9 (mb 10 3) ?_; refine rP 10 (mb 11 2) ?_; refine rP 11 (mb 12 1) ?_; refine rP 12 (mb 13 0) ?_; refine ec (by kernel_rfl) ?_
    go_wp2
    go_ret
    exact ⟨rfl, HS.be⟩
end Go.Proofs.Ytgpkdbnikcghgaa.MD
