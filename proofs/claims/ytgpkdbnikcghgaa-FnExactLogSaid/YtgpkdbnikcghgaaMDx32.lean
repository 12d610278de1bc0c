-- Written by mp.py, our own printer (wip/mp.py), and made shorter by wip/mp_shrink*.py.
import Derived.Test.YtgpkdbnikcghgaaVMShort
import Derived.Test.YtgpkdbnikcghgaaMDx0
import Derived.Test.YtgpkdbnikcghgaaMDx26
import Derived.Test.YtgpkdbnikcghgaaMDx33
namespace Go.Proofs.Ytgpkdbnikcghgaa.MD
open Go.RowKit Go.Proofs.YtgpkdbnikcghgaaW.PrintWords Go.Proofs.YtgpkdbnikcghgaaW.PrintLast Go.Proofs.YtgpkdbnikcghgaaW.PrintMore Go.Proofs.Ytgpkdbnikcghgaa.MWords
attribute [local go_sem] max2_int min2_int max_two min_two max_three min_three max_four min_four
set_option linter.unusedVariables false
set_option linter.unusedSimpArgs false
def wg.f (k:Nat) (U:List (ak)) (ab:List (ai)) (af:List (ai)) (ah:Int) (a1:ByteArray) (l2:List Int):Option ((List (ak)) × (List (ai)) × (List (ai)) × Int × Int):=(RA.f k l2).bind fun Li=>((oq.f k U ab af ah a1 Li).bind fun xP=>(some (xP.1,xP.2.1,xP.2.2.1,xP.2.2.2.1,xP.2.2.2.2)))
def wg.T1:Bool × List (List Nat × List Nat):=(true,[([],[]),([],[]),([],[]),([2],[2]),([0,1,3,3],[0,1,3]),([4],[4]),([4],[4]),([5,4,0,1,2,3,4,5,6],[5]),([6,7,0,1,2,3,4,5,6,7],[6])])
def wg.B1:List Nat:=[0,0,0,4,15,31,31,127,255]
theorem wg.CC:kS .any (opsOf Try.f30 1)=wg.T1:=by kernel_rfl
theorem wg.BA:qw wg.T1.2 wg.B1=true:=by kernel_rfl
set_option maxHeartbeats 8000000 in
set_option maxRecDepth 100000 in
theorem wg.calls (k:Nat) (aE:Option Addr) (az:Nat) (U:List (ak)) (aw:Option Addr) (ax:Nat) (ab:List (ai)) (aA:Option Addr) (aC:Nat) (af:List (ai)) (ah:Int) (a1:ByteArray) (A2:Option Addr) (c2:Nat) (l2:List Int) (r1:List (ak)) (r2:List (ai)) (r3:List (ai)) (r4:Int) (r5:Int) (w:World) (eZ:Kd.C bF w aE U.length U) (eX:U.length≤az) (ek:Kd.C aK w aw ab.length ab) (ej:ab.length≤ax) (e6:Kd.C aK w aA af.length af) (eY:af.length≤aC) (yn:Kd.C (Kd.int .u8) w A2 l2.length l2) (pK:l2.length≤c2) (h:wg.f k U ab af ah a1 l2=some (r1,r2,r3,r4,r5)) :
 Calls Try.prog 30 #[.agg #[.slice aE U.length az,.slice aw ab.length ax,.slice aA af.length aC,.int .i64 ah],.string a1,.slice A2 l2.length c2] w fun e w'=>∃fo iG jh:Value,e = .returned (.tuple #[.agg #[fo,iG,jh,.int .i64 r4],.int .i64 r5])∧Kd.N bF 80 w' w.heap.size (fun k_=>(w.heap.size≤k_)∧some k_≠(iG:Value).ownBlock∧some k_≠(jh:Value).ownBlock) fo r1∧Kd.R aK 63 w' w.heap.size (fun k_=>(w.heap.size≤k_)∧some k_≠(jh:Value).ownBlock) iG r2∧Kd.R aK 63 w' w.heap.size (fun k_=>(w.heap.size≤k_)∧some k_≠(iG:Value).ownBlock) jh r3∧Below w.heap.size w w':=by
 have qj:=Try.underlying30;have cF:=J eZ;have db:=J eX;clear eZ eX;have cr:=J ek;have cz:=J ej;clear ek ej;have cV:=J e6;have dc:=J eY;clear e6 eY;have xI:=J yn;have uH:=J pK;clear yn pK;have HB:=J (Below.refl w.heap.size w);have H:((RA.f k l2).bind fun Li=>((oq.f k U ab af ah a1 Li).bind fun xP=>(some (xP.1,xP.2.1,xP.2.2.1,xP.2.2.2.1,xP.2.2.2.2))))=some (r1,r2,r3,r4,r5):=h;clear h;replace H:=Option.bind_eq_some_iff.mp H;obtain⟨Li,jF,H⟩:=H;replace H:((oq.f k U ab af ah a1 Li).bind fun xP=>(some (xP.1,xP.2.1,xP.2.2.1,xP.2.2.2.1,xP.2.2.2.2)))=some (r1,r2,r3,r4,r5):=H;have A4:=J jF;clear jF;replace H:=Option.bind_eq_some_iff.mp H;obtain⟨⟨TY,aaJ,adR,ak6,atX⟩,qV,H⟩:=H;replace H:(some (TY,aaJ,adR,ak6,atX))=some (r1,r2,r3,r4,r5):=H;have A5:=J qV;clear qV;simp only[Option.some.injEq,Prod.mk.injEq]at H;obtain⟨rfl,rfl,rfl,rfl,rfl⟩:=H;go_enter Try.func30,Try.ntmps30
 try go_wp2_with (first|((with_reducible refine bB (N:=3) rfl ?_);refine bO 3 #[.slice aE U.length az,.slice aw ab.length ax,.slice aA af.length aC,.int .i64 ah] 30 ?_;intro S6 hg w6 hbox hb;have zK:=J (hbox);have aJV:=mG hg (mH HB.1);have Bm:=mG hg (mH HB.1);replace HB:=J (aG (mH HB.1) hb);clear hb hbox hg)|((with_reducible refine bB (N:=6) rfl ?_);refine bO 6 #[.slice none 0 0,.slice none 0 0,.slice none 0 0,.int .i64 0] 30 ?_;intro sr hg w7 hbox hb;have vw:=J (hbox);have aJW:=mG hg (aY HB.1 Bm.1);have Fb:=mG hg (aY HB.1 Bm.1);replace HB:=J (aG (aY HB.1 Bm.1) hb);have uL:=bV hg zK.1;have abq:=bU hg zK.1;replace zK:=mB zK hb;clear hb hbox hg))
 replace zK:=J (dH zK.1);replace vw:=J (dH vw.1);replace HB:=J (hG HB.1);refine j5 (n:=9) (S:=fun w'=>w'.cell? ⟨S6,0,none⟩=some (.slice aE U.length az)∧w'.cell? ⟨S6,1,none⟩=some (.slice aw ab.length ax)∧w'.cell? ⟨S6,2,none⟩=some (.slice aA af.length aC)∧w'.cell? ⟨S6,3,none⟩=some (.int .i64 ah)) (ds:=[]) (mb 0 9) (by kernel_rfl) rfl rfl (eT zK.1) (fun hHeld=>?_);refine kK wg.CC wg.BA (fun HT_ HW_=>?_);generalize w7.drew=w8 at zK vw HB hHeld ⊢
 refine an 1 9 HT_.1 (mr [0,1,1,7]) ?_;refine an 2 10 HT_.1 (mr [0,1,2,6]) ?_;refine bC 0 8 HT_.1 HW_.1 (mb 3 6) hHeld ?_;refine dA 3 (some 11) HT_.1 (mb 4 5) (fun K hK=>?_);refine e8 Try.func73 (by kernel_rfl) rfl #[.slice A2 l2.length c2] (by rfl) rfl rfl mA ?_
 with_reducible refine(RA.calls k _ _ l2 Li _ ?ar ?au A4.1).mono ?_
 (case ar=>exact mC (Kd.aX xI.1 HB.1))
 (case au=>exact uH.1)
 rintro e w9 ⟨aTU,rfl,aJ,hb⟩;refine⟨_,rfl,?_⟩;have Sr:=J (Kd.cq (Kd.qn (M:=fun k_=>(w.heap.size≤k_)) aJ (a7 (aT HB.1 Bm.1 Fb.1)) (fun k_ h_=>h_)) (a7 (aT HB.1 Bm.1 Fb.1)));replace zK:=mB zK hb;replace vw:=mB vw hb;replace HB:=J (aG (aT HB.1 Bm.1 Fb.1) hb)
 (try clear hb)
 (try clear ff)
 (try clear hk)
 (try clear hi)
 (try clear aJ)
 obtain⟨HF,y7,uO⟩:=Kd.bG Sr.1
 (first|subst uO|(injection uO with de fP df;have fQ:=de.symm;have fR:=df.symm;clear de fP df;subst fQ;subst fR))
 refine hK.out _ _ (eT zK.1) (fun hHeld=>?_);clear hK K;refine cO 11 ?_;refine dA 4 (some 12) HT_.1 (mb 5 4) (fun K hK=>?_);refine e8 Try.func23 (by kernel_rfl) rfl #[.agg #[.slice aE U.length az,.slice aw ab.length ax,.slice aA af.length aC,.int .i64 ah],.string a1,.slice HF Li.length y7] (by rfl) rfl rfl mA ?_
 with_reducible refine(oq.calls k _ _ U _ _ ab _ _ af ah a1 _ _ Li TY aaJ adR ak6 atX _ ?ar ?au ?aZ ?a6 ?bc ?bf ?dS ?dT A5.1).mono ?_
 (case ar=>exact mC (Kd.aX cF.1 HB.1))
 (case au=>exact db.1)
 (case aZ=>exact mC (Kd.aX cr.1 HB.1))
 (case a6=>exact cz.1)
 (case bc=>exact mC (Kd.aX cV.1 HB.1))
 (case bf=>exact dc.1)
 (case dS=>exact mC (Kd.av Sr.1).2.2)
 (case dT=>exact(Kd.av Sr.1).2.1)
 rintro e e9 ⟨aTV,auq,aur,rfl,aJ,aV,aQ,hb⟩;refine⟨_,rfl,?_⟩;have am2:=J (Kd.si (Kd.bo (ok':=fun k_=>(w.heap.size≤k_)∧some k_≠(auq:Value).ownBlock∧some k_≠(aur:Value).ownBlock∧some k_≠(.slice HF Li.length y7:Value).ownBlock∧k_≠S6∧k_≠sr) aJ (fun k_ hk_=>⟨(Nat.le_trans (a7 (aT HB.1 Bm.1 Fb.1)) hk_.1),hk_.2.1,hk_.2.2,(Kd.gz (Kd.aM (mR Sr.1)) k_ hk_.1),(Kd.eS (g:=S6) (o:=.cells #[.slice aE U.length az,.slice aw ab.length ax,.slice aA af.length aC,.int .i64 ah] 30 (0,0)) (mK zK.1) k_ hk_.1),(Kd.eS (g:=sr) (o:=.cells #[.slice none 0 0,.slice none 0 0,.slice none 0 0,.int .i64 0] 30 (0,0)) (mK vw.1) k_ hk_.1)⟩)) (a7 (aT HB.1 Bm.1 Fb.1)));replace Sr:=J (Kd.ao (mR Sr.1) hb);have am3:=J (Kd.cq (Kd.qn (M:=fun k_=>(w.heap.size≤k_)) (Kd.aj (ok':=fun k_=>some k_≠(aur:Value).ownBlock) aV (fun _ hk_=>hk_.2)) (a7 (aT HB.1 Bm.1 Fb.1)) (fun k_ h_=>h_)) (a7 (aT HB.1 Bm.1 Fb.1)));have am4:=J (Kd.cq (Kd.qn (M:=fun k_=>(w.heap.size≤k_)) (Kd.aj (ok':=fun k_=>some k_≠(auq:Value).ownBlock) aQ (fun _ hk_=>hk_.2)) (a7 (aT HB.1 Bm.1 Fb.1)) (fun k_ h_=>h_)) (a7 (aT HB.1 Bm.1 Fb.1)));replace zK:=mB zK hb;replace vw:=mB vw hb;replace HB:=J (aG (aT HB.1 Bm.1 Fb.1) hb)
 (try clear hb)
 (try clear ff)
 (try clear hk)
 (try clear hi)
 (try clear aJ)
 (try clear aV)
 (try clear aQ)
 obtain⟨o6,pe,FT⟩:=Kd.sj am2.1
 (first|subst FT|(injection FT with de fP df;have fQ:=de.symm;have fR:=df.symm;clear de fP df;subst fQ;subst fR))
 obtain⟨qy,qI,Ap⟩:=Kd.bG am3.1
 (first|subst Ap|(injection Ap with de fP df;have fQ:=de.symm;have fR:=df.symm;clear de fP df;subst fQ;subst fR))
 obtain⟨ue,uq,Aq⟩:=Kd.bG am4.1
 (first|subst Aq|(injection Aq with de fP df;have fQ:=de.symm;have fR:=df.symm;clear de fP df;subst fQ;subst fR))
 refine hK.out _ _ (eT zK.1) (fun hHeld=>?_);clear hK K;refine cO 12 ?_;refine an 5 13 HT_.1 (mb 6 3) ?_;refine an 6 14 HT_.1 (mb 7 2) ?_;refine dA 7 none HT_.1 (mb 8 1) (fun K hK=>?_);have aGK:e9.cell? ⟨sr,0,none⟩=some (.slice none 0 0):=mZ vw.1 0;have aCG:=lK vw.1 0;have aGC:=uL.1;have aEO:=abq.1;have asP:e9.cell? ⟨sr,1,none⟩=some (.slice none 0 0):=mZ vw.1 1;have ap0:=lK vw.1 1;have asD:=uL.1;have aro:=abq.1;have asQ:e9.cell? ⟨sr,2,none⟩=some (.slice none 0 0):=mZ vw.1 2;have ap1:=lK vw.1 2;have asE:=uL.1;have arp:=abq.1;have asR:e9.cell? ⟨sr,3,none⟩=some (.int .i64 0):=mZ vw.1 3;have ap2:=lK vw.1 3;have asF:=uL.1;have arq:=abq.1;refine KZ (w1:=?_) (by rfl) rfl ?_ ?_
 rotate_left
 ·go_simp;rfl
 refine hK.out _ _ ⟨((cell_far (p:=⟨sr,_,none⟩) uL.1 _).trans (((cell_far (p:=⟨sr,_,none⟩) uL.1 _).trans (((cell_far (p:=⟨sr,_,none⟩) uL.1 _).trans (((cell_far (p:=⟨sr,_,none⟩) uL.1 _).trans (hHeld.1)))))))),((cell_far (p:=⟨sr,_,none⟩) uL.1 _).trans (((cell_far (p:=⟨sr,_,none⟩) uL.1 _).trans (((cell_far (p:=⟨sr,_,none⟩) uL.1 _).trans (((cell_far (p:=⟨sr,_,none⟩) uL.1 _).trans (hHeld.2.1)))))))),((cell_far (p:=⟨sr,_,none⟩) uL.1 _).trans (((cell_far (p:=⟨sr,_,none⟩) uL.1 _).trans (((cell_far (p:=⟨sr,_,none⟩) uL.1 _).trans (((cell_far (p:=⟨sr,_,none⟩) uL.1 _).trans (hHeld.2.2.1)))))))),((cell_far (p:=⟨sr,_,none⟩) uL.1 _).trans (((cell_far (p:=⟨sr,_,none⟩) uL.1 _).trans (((cell_far (p:=⟨sr,_,none⟩) uL.1 _).trans (((cell_far (p:=⟨sr,_,none⟩) uL.1 _).trans (hHeld.2.2.2))))))))⟩ (fun hHeld=>?_);clear hK K;refine an 8 7 HT_.1 (mb 9 0) ?_;refine jX (kC HT_.1 (by kernel_rfl)) ?_
 try go_wp2
 refine bodyPost_ret (uB rfl _ _ sr 30 #[.slice o6 TY.length pe,.slice qy aaJ.length qI,.slice ue adR.length uq,.int .i64 ak6] (0,0) _ rfl (by refine mK ?_;refine aW (cs:=#[.slice o6 TY.length pe,.slice qy aaJ.length qI,.slice ue adR.length uq,.int .i64 0]) ?_ 3 _ rfl;refine mK ?_;refine aW (cs:=#[.slice o6 TY.length pe,.slice qy aaJ.length qI,.slice none 0 0,.int .i64 0]) ?_ 2 _ rfl;refine mK ?_;refine aW (cs:=#[.slice o6 TY.length pe,.slice none 0 0,.slice none 0 0,.int .i64 0]) ?_ 1 _ rfl;refine mK ?_;refine aW (cs:=#[.slice none 0 0,.slice none 0 0,.slice none 0 0,.int .i64 0]) ?_ 0 _ rfl;refine mK ?_;exact vw.1) Try.underlying30 rfl (by kernel_rfl)) rfl ?_;exact⟨_,_,_,cS,by refine bp ?_;exact Kd.bo (gJ (Kd.bo am2.1 (fun k_ hk=>(⟨hk,hk.2.2.2.2.2⟩:_∧k_≠sr)))) (fun _ hk=>⟨hk.1.1,⟨hk.1.2.1,hk.1.2.2.1⟩⟩),by refine mR ?_;exact Kd.aj (aI (Kd.ay am3.1 vw.1 (by decide))) (fun _ hk=>⟨hk.1.1,hk.1.2⟩),by refine mR ?_;exact Kd.aj (aI (Kd.ay am4.1 vw.1 (by decide))) (fun _ hk=>⟨hk.1.1,hk.1.2⟩),(aT HB.1 Bm.1 Fb.1)⟩
end Go.Proofs.Ytgpkdbnikcghgaa.MD
