/- Walks and plain laws, put together: no condition of their own. -/
import Derived.Test.YtingkpnoiekliaaGreatVAll
import Derived.Test.YtingkpnoiekliaaGreatG1
import Derived.Test.YtingkpnoiekliaaGreatMZx13
import Derived.Test.YtingkpnoiekliaaGreatG6
import Derived.Test.YtingkpnoiekliaaGreatG2
import Derived.Test.YtingkpnoiekliaaGreatG4
section
namespace Go.Proofs.YtingkpnoiekliaaGreat.MZ
open Go.RowKit Go.Proofs.YtingkpnoiekliaaGreatW.PrintWords Go.Proofs.YtingkpnoiekliaaGreatW.PrintLast Go.Proofs.YtingkpnoiekliaaGreatW.PrintMore Go.Proofs.YtingkpnoiekliaaGreat.MWords
attribute [local go_sem] max2_int min2_int max_two min_two max_three min_three max_four min_four
set_option linter.unusedVariables false
set_option linter.unusedSimpArgs false
def rX.f (a1:ByteArray) (k:Nat) (U:List (al)) (l1 l2:List (aa)) (n:Int):Option (List (al) × List (aa) × List (aa) × Int × Int):=(ir.f k l1 a1).bind fun t=>some (U,t,l2,n,0)
theorem rX.calls (k:Nat) (gb gn:Nat) (u0 u2 u3:Value) (A0:Option Addr) (c0:Nat) (U:List (aa)) (a1:ByteArray) (r:List (aa)) (w:World) (bJ:Kd.C an w A0 U.length U) (bz:U.length≤c0) (hbk:w.heap[gb]? = some (.cells #[u0,.slice A0 U.length c0,u2,u3] 27 (0,0))) (hgn:w.heap[gn]? = some (.cells #[.string a1] 9 (0,0))) (h:ir.f k U a1=some r) :
 Calls Tryz.prog 119 #[.pointer (some ⟨gb,0,none⟩),.pointer (some ⟨gn,0,none⟩)] w fun e w'=>∃(cf:Value) (w1:World),e = .returned (.int .i64 0)∧w'=w1.setCell ⟨gb,1,none⟩ cf∧Kd.R an 89 w1 w.heap.size (fun _=>True) cf r∧Below w.heap.size w w1:=by
 have HBK:=J hbk;have HGN:=J hgn;have bB:=J bJ;clear hbk hgn bJ;have A1:=J h;clear h;have ahr:w.cell? ⟨gn,0,none⟩=some (.string a1):=(bL HGN.1 0).trans rfl;have asZ:=eA HGN.1 0;go_enter Tryz.func119,Tryz.ntmps119;go_wp2_with (first|((with_reducible refine aJ (f:=104) rfl ?_);refine qL (some 6) rfl rfl Tryz.func104 (by kernel_rfl) rfl #[.pointer (some ⟨gb,0,none⟩),.string a1] rfl (by (try simp only[List.map_toArray,List.map_cons,List.map_nil]);first|done|rfl) ?_;(with_reducible refine(ir.calls k gb u0 u2 u3 A0 c0 U a1 r w HBK.1 bB.1 bz A1.1).mono ?_);rintro e w_ ⟨v3,w3,rfl,rfl,bq,hb⟩;refine⟨_,rfl,?_⟩;have Bp:=J bq;have xU:=J hb;clear bq hb));go_ret
 first|exact⟨_,_,rfl,rfl,Bp.1,xU.1⟩|exact⟨rfl,_,_,rfl,Bp.1,xU.1⟩
theorem rX.rY (a1:ByteArray) (gn:Nat) (W:World) (hgn:W.heap[gn]? = some (.cells #[.string a1] 9 (0,0))):Mv.xK (rX.f a1) 119 #[.pointer (some ⟨gn,0,none⟩)] W:=by
 intro k gb A0 c0 U A1 c1 l1 A2 c2 l2 n r0 r1 r2 r3 r4 w hB hge hbk hI hN hS h;obtain⟨t,ht,h⟩:=Option.bind_eq_some_iff.mp h;simp only[Option.some.injEq,Prod.mk.injEq]at h;obtain⟨rfl,rfl,rfl,rfl,rfl⟩:=h;refine(rX.calls k gb gn _ _ _ A1 c1 l1 a1 t w (Kd.bK hN).2.2 (Kd.bK hN).2.1 hbk (bg hgn hB) ht).mono ?_;rintro e w' ⟨v0,w1,rfl,rfl,hr,hb⟩;obtain⟨g1,g2,g3,g4,g5,g6⟩:=Mv.Se hB hge hbk hI hS hb hr;exact⟨_,_,_,rfl,g1,g2,g3,g4,g5,g6⟩
def Hn.f (k:Nat) (ab:List (al)) (af:List (aa)) (aj:List (aa)) (ak:Int) (a1:ByteArray):Option ((List (al)) × (List (aa)) × (List (aa)) × Int × Int):=(bZ.f (rX.f a1) k ab af aj ak (([a1]:List ByteArray)) true).bind fun mT=>(some (mT.1,mT.2.1,mT.2.2.1,mT.2.2.2.1,mT.2.2.2.2))
set_option maxHeartbeats 8000000 in
set_option maxRecDepth 100000 in
theorem Hn.calls (k:Nat) (aE:Option Addr) (av:Nat) (ab:List (al)) (aq:Option Addr) (ao:Nat) (af:List (aa)) (aC:Option Addr) (aD:Nat) (aj:List (aa)) (ak:Int) (a1:ByteArray) (r1:List (al)) (r2:List (aa)) (r3:List (aa)) (r4:Int) (r5:Int) (w:World) (cI:Kd.C bc w aE ab.length ab) (cG:ab.length≤av) (cr:Kd.C an w aq af.length af) (cq:af.length≤ao) (cJ:Kd.C an w aC aj.length aj) (cH:aj.length≤aD) (h:Hn.f k ab af aj ak a1=some (r1,r2,r3,r4,r5)) :
 Calls Tryz.prog 100 #[.agg #[.slice aE ab.length av,.slice aq af.length ao,.slice aC aj.length aD,.int .i64 ak],.string a1] w fun e w'=>∃cf dt dF:Value,e = .returned (.tuple #[.agg #[cf,dt,dF,.int .i64 r4],.int .i64 r5])∧Kd.S bc 63 w' w.heap.size (fun _=>True) cf r1∧Kd.R an 89 w' w.heap.size (fun k_=>some k_≠(dF:Value).ownBlock) dt r2∧Kd.R an 89 w' w.heap.size (fun k_=>some k_≠(dt:Value).ownBlock) dF r3∧Below w.heap.size w w':=by
 have kZ:=Tryz.underlying27;have ca:=J cI;have cA:=J cG;clear cI cG;have bW:=J cr;have cd:=J cq;clear cr cq;have cD:=J cJ;have cL:=J cH;clear cJ cH;have HB:=J (Below.refl w.heap.size w);have H:((bZ.f (rX.f a1) k ab af aj ak (([a1]:List ByteArray)) true).bind fun mT=>(some (mT.1,mT.2.1,mT.2.2.1,mT.2.2.2.1,mT.2.2.2.2)))=some (r1,r2,r3,r4,r5):=h;clear h;obtain⟨rj,so⟩:∃y_:List ByteArray,y_=(([a1]:List ByteArray)):=⟨_,rfl⟩;replace H:((bZ.f (rX.f a1) k ab af aj ak rj true).bind fun mT=>(some (mT.1,mT.2.1,mT.2.2.1,mT.2.2.2.1,mT.2.2.2.2)))=some (r1,r2,r3,r4,r5):=by first|(rw[so];with_reducible exact H)|(have aM:=(Option.bind_some _ _).symm.trans H;rw[so];with_reducible exact aM)|(have aM:=(Option.bind_some _ _).symm.trans H;with_reducible exact aM)|with_reducible exact H|(rw[so];exact H)|exact H
 have DZ:=J so;clear so;replace H:=Option.bind_eq_some_iff.mp H;obtain⟨⟨CX,H7,Lx,Sn,aab⟩,dY,H⟩:=H;replace H:(some (CX,H7,Lx,Sn,aab))=some (r1,r2,r3,r4,r5):=H;have A3:=J dY;clear dY;simp only[Option.some.injEq,Prod.mk.injEq]at H;obtain⟨rfl,rfl,rfl,rfl,rfl⟩:=H;go_enter Tryz.func100,Tryz.ntmps100;go_wp2_with (first|((with_reducible refine aH (N:=2) rfl ?_);refine aT 2 #[.slice aE ab.length av,.slice aq af.length ao,.slice aC aj.length aD,.int .i64 ak] 27 ?_;intro bE hg w4 hbox hb;have bF:=J (hbox);have ig:=mG hg (mH HB.1);have b9:=mG hg (mH HB.1);replace HB:=J (ar (mH HB.1) hb);clear hb hbox hg)|((with_reducible refine aH (N:=3) rfl ?_);refine aT 3 #[.string a1] 9 ?_;intro JQ hg w5 hbox hb;have qq:=J (hbox);have apb:=mG hg (aI HB.1 b9.1);have s8:=mG hg (aI HB.1 b9.1);replace HB:=J (ar (aI HB.1 b9.1) hb);have adi:=bI hg bF.1;have adj:=bH hg bF.1;replace bF:=mB bF hb;clear hb hbox hg)|((with_reducible refine aH (N:=4) rfl ?_);refine aT 4 #[.slice none 0 0,.slice none 0 0,.slice none 0 0,.int .i64 0] 27 ?_;intro lF hg w6 hbox hb;have fZ:=J (hbox);have abC:=mG hg (aV HB.1 b9.1 s8.1);have nF:=mG hg (aV HB.1 b9.1 s8.1);replace HB:=J (ar (aV HB.1 b9.1 s8.1) hb);have DU:=bI hg bF.1;have IP:=bH hg bF.1;replace bF:=mB bF hb;have adk:=bI hg qq.1;have adn:=bH hg qq.1;replace qq:=mB qq hb;clear hb hbox hg;have Kw:=adi.1;have KA:=adj.1;have Kx:=DU.1;have KB:=IP.1;obtain⟨Cb,Cc,J6,J7,Ci,Cj,Ko,Kp⟩:=bk bF.1;have Cn:=adk.1;have Co:=adn.1;have yU:=mZ qq.1 0;have za:=eA qq.1 0)|((with_reducible refine aH (N:=8) rfl ?_);refine Kd.kR Kd.string _ 9 ?hg (N:=8) ?hd (xs:=([a1]:List ByteArray)) (inner:=[.string a1]) (ok:=fun _=>True) (okp:=fun _=>True) ?hr ?hp (fun _ hk=>hk) trivial (Below.refl _ _) (Nat.le_refl _) (by simp) ?_;(case hd=>rfl);(case hg=>rfl);(case hr=>first|(go_simp;done)|(go_simp;rfl));(case hp=>exact(bw.one (show Kd.M Kd.string _ _ _ a1 [.string a1] from rfl) (bw.none _ _)));intro aau dK jz hb hg_ hnew_;clear hg_ hnew_;(first|rw[←DZ.1]at jz|(simp only[Int.reduceToNat]at jz;rw[←DZ.1]at jz));have oT:=J (Kd.cg (Kd.ub jz (g:=JQ) (o:=.cells #[.string a1] 9 (0,0)) (mK qq.1)) (bl (aU HB.1 b9.1 s8.1 nF.1)));replace bF:=mB bF hb;replace qq:=mB qq hb;replace fZ:=mB fZ hb;replace HB:=J (ar (aU HB.1 b9.1 s8.1 nF.1) hb);clear hb jz;obtain⟨jG,jO,pY⟩:=Kd.b7 oT.1;subst pY)|((with_reducible refine aJ (f:=81) rfl ?_);refine bA 10 Tryz.func81 #[.agg #[.slice aE ab.length av,.slice aq af.length ao,.slice aC aj.length aD,.int .i64 ak],.slice jG rj.length jO,.bool true,.func (.func 119) #[] #[.pointer (some ⟨JQ,0,none⟩)]] ?_;(with_reducible refine(bZ.calls (rX.f a1) 119 _ #[.pointer (some ⟨JQ,0,none⟩)] k _ _ ab _ _ af _ _ aj ak _ _ rj true CX H7 Lx Sn aab _ Tryz.func119 (by kernel_rfl) rfl (rX.rY a1 JQ _ (mK qq.1)) ?az ?aA ?bh ?bj ?bT ?bU ?qf ?qg A3.1).mono ?_);(case az=>exact mC (Kd.aw ca.1 HB.1));(case aA=>exact cA.1);(case bh=>exact mC (Kd.aw bW.1 HB.1));(case bj=>exact cd.1);(case bT=>exact mC (Kd.aw cD.1 HB.1));(case bU=>exact cL.1);(case qf=>exact mC (Kd.bK oT.1).2.2);(case qg=>exact(Kd.bK oT.1).2.1);rintro e lh ⟨an4,an5,ayC,rfl,bq,cW,cQ,hb⟩;refine⟨_,rfl,?_⟩;replace oT:=J (Kd.bD (mR oT.1) hb);have yd:=J (Kd.l6 bq (bl (aU HB.1 b9.1 s8.1 nF.1)));have DF:=J (Kd.cg cW (bl (aU HB.1 b9.1 s8.1 nF.1)));have Ua:=J (Kd.cg cQ (bl (aU HB.1 b9.1 s8.1 nF.1)));replace bF:=mB bF hb;replace qq:=mB qq hb;replace fZ:=mB fZ hb;replace HB:=J (ar (aU HB.1 b9.1 s8.1 nF.1) hb);(try clear hb);(try clear bq);(try clear cW);(try clear cQ);obtain⟨lP,mc,rZ⟩:=Kd.jv yd.1;subst rZ;obtain⟨E4,JY,JZ,J0,Fc,Kg,Kh,Ki⟩:=bk fZ.1;obtain⟨dc,cU,pb⟩:=Kd.b7 DF.1;subst pb;obtain⟨oc,jw,yN⟩:=Kd.b7 Ua.1;subst yN))
 refine bodyPost_ret (hG rfl _ _ lF 27 #[.slice lP CX.length mc,.slice dc H7.length cU,.slice oc Lx.length jw,.int .i64 Sn] (0,0) _ rfl (by refine mK ?_;refine bf (cs:=#[.slice lP CX.length mc,.slice dc H7.length cU,.slice oc Lx.length jw,.int .i64 0]) ?_ 3 _ rfl;refine mK ?_;refine bf (cs:=#[.slice lP CX.length mc,.slice dc H7.length cU,.slice none 0 0,.int .i64 0]) ?_ 2 _ rfl;refine mK ?_;refine bf (cs:=#[.slice lP CX.length mc,.slice none 0 0,.slice none 0 0,.int .i64 0]) ?_ 1 _ rfl;refine mK ?_;refine bf (cs:=#[.slice none 0 0,.slice none 0 0,.slice none 0 0,.int .i64 0]) ?_ 0 _ rfl;refine mK ?_;exact fZ.1) Tryz.underlying27 rfl (by kernel_rfl)) rfl ?_;exact⟨_,_,_,bN,by refine dm ?_;exact Kd.dj (pj (Kd.jL yd.1 fZ.1 (by decide))) (fun _ hk=>trivial),by refine mR ?_;exact Kd.aK (dv (Kd.bM DF.1 fZ.1 (by decide))) (fun _ hk=>hk.1),by refine mR ?_;exact Kd.aK (dv (Kd.bM Ua.1 fZ.1 (by decide))) (fun _ hk=>hk.1),(aU HB.1 b9.1 s8.1 nF.1)⟩
end Go.Proofs.YtingkpnoiekliaaGreat.MZ
end
section
namespace Go.Proofs.YtingkpnoiekliaaGreat.MZ
open Go.RowKit Go.Proofs.YtingkpnoiekliaaGreatW.PrintWords Go.Proofs.YtingkpnoiekliaaGreatW.PrintLast Go.Proofs.YtingkpnoiekliaaGreatW.PrintMore Go.Proofs.YtingkpnoiekliaaGreat.MWords
attribute [local go_sem] max2_int min2_int max_two min_two max_three min_three max_four min_four
set_option linter.unusedVariables false
set_option linter.unusedSimpArgs false
def iw.j0:Nat→Int→Bool→List (al)→List (aa)→List (aa)→Int→Option (List Int × Bool)
 |0,_,_,_,_,_,_=>none
 |k+1,x6,LP,aaH,ay5,ay6,ay7=>if LP=true then (some (([]:List Int),false)) else (if 0≤x6 then (if x6<(aaH.length:Int) then ((wX.f ((ai aaH x6).f1)).bind fun t148=>(some (t148,true))) else (none)) else (none))
def iw.f (k:Nat) (ab:List (al)) (af:List (aa)) (aj:List (aa)) (ak:Int) (a1:ByteArray):Option (List Int × Bool):=(eX.f k ab af aj ak a1).bind fun t143=>((iC.f k ab af aj ak t143).bind fun t144=>((kD.f k ab af aj ak).bind fun t145=>(if t145=true then ((eX.f k ab af aj ak a1).bind fun t146=>(if t146=0 then (iw.j0 k t144 true ab af aj ak) else (iw.j0 k t144 (decide (t144<0)) ab af aj ak))) else (iw.j0 k t144 true ab af aj ak))))
set_option maxHeartbeats 8000000 in
set_option maxRecDepth 100000 in
theorem iw.calls (k:Nat) (aE:Option Addr) (av:Nat) (ab:List (al)) (aq:Option Addr) (ao:Nat) (af:List (aa)) (aC:Option Addr) (aD:Nat) (aj:List (aa)) (ak:Int) (a1:ByteArray) (r1:List Int) (r2:Bool) (w:World) (cI:Kd.C bc w aE ab.length ab) (cG:ab.length≤av) (cr:Kd.C an w aq af.length af) (cq:af.length≤ao) (cJ:Kd.C an w aC aj.length aj) (cH:aj.length≤aD) (h:iw.f k ab af aj ak a1=some (r1,r2)) :
 Calls Tryz.prog 9 #[.agg #[.slice aE ab.length av,.slice aq af.length ao,.slice aC aj.length aD,.int .i64 ak],.string a1] w fun e w'=>∃cf:Value,e = .returned (.tuple #[cf,.bool r2])∧Kd.R (Kd.int .u8) 5 w' w.heap.size (fun _=>True) cf r1∧Below w.heap.size w w':=by
 have kZ:=Tryz.underlying27;have ca:=J cI;have cA:=J cG;clear cI cG;have bW:=J cr;have cd:=J cq;clear cr cq;have cD:=J cJ;have cL:=J cH;clear cJ cH;have HB:=J (Below.refl w.heap.size w);have H:((eX.f k ab af aj ak a1).bind fun t143=>((iC.f k ab af aj ak t143).bind fun t144=>((kD.f k ab af aj ak).bind fun t145=>(if t145=true then ((eX.f k ab af aj ak a1).bind fun t146=>(if t146=0 then (iw.j0 k t144 true ab af aj ak) else (iw.j0 k t144 (decide (t144<0)) ab af aj ak))) else (iw.j0 k t144 true ab af aj ak)))))=some (r1,r2):=h;clear h;replace H:=Option.bind_eq_some_iff.mp H;obtain⟨t143,dY,H⟩:=H;replace H:((iC.f k ab af aj ak t143).bind fun t144=>((kD.f k ab af aj ak).bind fun t145=>(if t145=true then ((eX.f k ab af aj ak a1).bind fun t146=>(if t146=0 then (iw.j0 k t144 true ab af aj ak) else (iw.j0 k t144 (decide (t144<0)) ab af aj ak))) else (iw.j0 k t144 true ab af aj ak))))=some (r1,r2):=H;have A3:=J dY;clear dY;replace H:=Option.bind_eq_some_iff.mp H;obtain⟨t144,e6,H⟩:=H;replace H:((kD.f k ab af aj ak).bind fun t145=>(if t145=true then ((eX.f k ab af aj ak a1).bind fun t146=>(if t146=0 then (iw.j0 k t144 true ab af aj ak) else (iw.j0 k t144 (decide (t144<0)) ab af aj ak))) else (iw.j0 k t144 true ab af aj ak)))=some (r1,r2):=H;have A4:=J e6;clear e6;have xW:=J H;clear H;go_enter Tryz.func9,Tryz.ntmps9
 try go_wp2_with (first|((with_reducible refine aH (N:=2) rfl ?_);refine aT 2 #[.slice aE ab.length av,.slice aq af.length ao,.slice aC aj.length aD,.int .i64 ak] 27 ?_;intro EO hg w6 hbox hb;have gN:=J (hbox);have aoP:=mG hg (mH HB.1);have oP:=mG hg (mH HB.1);replace HB:=J (ar (mH HB.1) hb);clear hb hbox hg))
 replace gN:=J (fc gN.1);replace HB:=J (fy HB.1);refine fk (n:=6) (S:=fun w'=>w'.cell? ⟨EO,0,none⟩=some (.slice aE ab.length av)∧w'.cell? ⟨EO,1,none⟩=some (.slice aq af.length ao)∧w'.cell? ⟨EO,2,none⟩=some (.slice aC aj.length aD)∧w'.cell? ⟨EO,3,none⟩=some (.int .i64 ak)) (ds:=[]) (mb 0 6) (by kernel_rfl) rfl rfl (fu gN.1) (fun hHeld=>?_);generalize w6.drew=w7 at gN HB hHeld ⊢
 refine Ad (i:=2) (N:=some 9) (v:=?_) (a':=?_) (mr [0,2,1,3]) rfl rfl (by kernel_rfl) (fun _ _ _ h=>h) (Or.inl ⟨by rfl,?_⟩) ?_ ?_
 rotate_left
 ·intro w';go_simp
  with_reducible rfl
 rotate_left
 ·simp only[Act.put,zA,zB,zC,dJ,gx];rfl
 refine vm (i:=0) (N:=some 7) (v:=?_) (a':=?_) (mr [1,1,1,3]) rfl rfl (by kernel_rfl) (fun _ _ _ h=>h) (Or.inl ⟨by rfl,?_⟩) hHeld ?_ ?_
 rotate_left
 ·rintro w' ⟨s0,s1,s2,s3⟩;go_simp
  with_reducible rfl
 rotate_left
 ·simp only[Act.put,zA,zB,zC,dJ,gx];rfl
 refine vm (i:=1) (N:=some 8) (v:=?_) (a':=?_) (mb 3 3) rfl rfl (by kernel_rfl) (fun _ _ _ h=>h) (Or.inl ⟨by rfl,?_⟩) hHeld ?_ ?_
 rotate_left
 ·rintro w' ⟨s0,s1,s2,s3⟩;go_simp
  with_reducible rfl
 rotate_left
 ·simp only[Act.put,zA,zB,zC,dJ,gx];rfl
 refine HQ (i:=3) (N:=some 10) (mb 4 2) rfl rfl (by kernel_rfl) (by decide) (fun K hK=>?_);refine iU Tryz.func28 (by kernel_rfl) rfl #[.agg #[.slice aE ab.length av,.slice aq af.length ao,.slice aC aj.length aD,.int .i64 ak],.string a1] (by rfl) rfl rfl mA ?_
 with_reducible refine(eX.calls k _ _ ab _ _ af _ _ aj ak a1 t143 _ ?az ?aA ?bh ?bj ?bT ?bU A3.1).mono ?_
 (case az=>exact mC (Kd.aw ca.1 HB.1))
 (case aA=>exact cA.1)
 (case bh=>exact mC (Kd.aw bW.1 HB.1))
 (case bj=>exact cd.1)
 (case bT=>exact mC (Kd.aw cD.1 HB.1))
 (case bU=>exact cL.1)
 rintro e w8 ⟨rfl,hb⟩;refine⟨_,rfl,?_⟩;replace gN:=mB gN hb;replace HB:=J (ar (aI HB.1 oP.1) hb)
 (try clear hb)
 (try clear eO)
 (try clear hk)
 (try clear hi)
 refine hK.out _ _ (fu gN.1) (fun hHeld=>?_);clear hK K;refine cR 10 ?_;refine HQ (i:=4) (N:=some 11) (mb 5 1) rfl rfl (by kernel_rfl) (by decide) (fun K hK=>?_);refine iU Tryz.func35 (by kernel_rfl) rfl #[.agg #[.slice aE ab.length av,.slice aq af.length ao,.slice aC aj.length aD,.int .i64 ak],.int .i64 t143] (by rfl) rfl rfl mA ?_
 with_reducible refine(iC.calls k _ _ ab _ _ af _ _ aj ak t143 t144 _ ?az ?aA ?bh ?bj ?bT ?bU A4.1).mono ?_
 (case az=>exact mC (Kd.aw ca.1 HB.1))
 (case aA=>exact cA.1)
 (case bh=>exact mC (Kd.aw bW.1 HB.1))
 (case bj=>exact cd.1)
 (case bT=>exact mC (Kd.aw cD.1 HB.1))
 (case bU=>exact cL.1)
 rintro e w9 ⟨rfl,hb⟩;refine⟨_,rfl,?_⟩;replace gN:=mB gN hb;replace HB:=J (ar (aI HB.1 oP.1) hb)
 (try clear hb)
 (try clear eO)
 (try clear hk)
 (try clear hi)
 refine hK.out _ _ (fu gN.1) (fun hHeld=>?_);clear hK K;refine cR 11 ?_;refine Ad (i:=5) (N:=some 6) (v:=?_) (a':=?_) (mb 6 0) rfl rfl (by kernel_rfl) (fun _ _ _ h=>h) (Or.inl ⟨by rfl,?_⟩) ?_ ?_
 rotate_left
 ·intro w';go_simp
  with_reducible rfl
 rotate_left
 ·simp only[Act.put,zA,zB,zC,dJ,gx];rfl
 refine fA (by kernel_rfl) ?_;go_upto_region 2 with (fail)
 go_cut [24] (fun v24 wc=>∃(kq:Nat) (LQ:Bool),v24 = .bool LQ∧Aside0 (iw.j0 kq t144 LQ ab af aj ak=some (r1,r2))∧Aside0 (kq≤k)∧Aside0 (wc.heap[EO]? = some (.cells #[(.slice aE ab.length av),(.slice aq af.length ao),(.slice aC aj.length aD),.int .i64 ak] 27 (0,0)))∧Aside0 (Below w.heap.size w wc))
 case first=>
  have H:=xW.1;clear xW;replace H:=Option.bind_eq_some_iff.mp H;obtain⟨t145,oN,H⟩:=H;replace H:(if t145=true then ((eX.f k ab af aj ak a1).bind fun t146=>(if t146=0 then (iw.j0 k t144 true ab af aj ak) else (iw.j0 k t144 (decide (t144<0)) ab af aj ak))) else (iw.j0 k t144 true ab af aj ak))=some (r1,r2):=H;have oM:=J oN;clear oN;by_cases ff:t145=true
  ·subst ff;have H1:=H;rw[if_pos rfl]at H1;clear H;have H:=H1;clear H1;replace H:=Option.bind_eq_some_iff.mp H;obtain⟨t146,Df,H⟩:=H;replace H:(if t146=0 then (iw.j0 k t144 true ab af aj ak) else (iw.j0 k t144 (decide (t144<0)) ab af aj ak))=some (r1,r2):=H;have De:=J Df;clear Df;by_cases cY:t146=0
   ·rw[if_pos cY]at H;have o5:(t146 == 0)=true:=beq_iff_eq.mpr cY;have Vp:(t146 != 0)=false:=bne_eq_false_iff_eq.mpr cY;clear cY
    (first|rw[o5]|(simp only[dJ,gx];rw[o5])|skip)
    have H':=J H;clear H;obtain⟨yV,yW,JX,WM,zb,zc,Kf,Xe⟩:=bk gN.1;go_wp2_with (first|((with_reducible refine aJ (f:=11) rfl ?_);refine bA 13 Tryz.func11 #[.agg #[.slice aE ab.length av,.slice aq af.length ao,.slice aC aj.length aD,.int .i64 ak]] ?_;(with_reducible refine(kD.calls k _ _ ab _ _ af _ _ aj ak true _ ?az ?aA ?bh ?bj ?bT ?bU oM.1).mono ?_);(case az=>exact mC (Kd.aw ca.1 HB.1));(case aA=>exact cA.1);(case bh=>exact mC (Kd.aw bW.1 HB.1));(case bj=>exact cd.1);(case bT=>exact mC (Kd.aw cD.1 HB.1));(case bU=>exact cL.1);rintro e lh ⟨rfl,hb⟩;refine⟨_,rfl,?_⟩;replace gN:=mB gN hb;replace HB:=J (ar (aI HB.1 oP.1) hb);(try clear hb);obtain⟨wi,wj,wk,yY,wC,wD,wE,ze⟩:=bk gN.1)|(go_at_call 28;(with_reducible refine(eX.calls k _ _ ab _ _ af _ _ aj ak a1 t146 _ ?az ?aA ?bh ?bj ?bT ?bU De.1).mono ?_);(case az=>exact mC (Kd.aw ca.1 HB.1));(case aA=>exact cA.1);(case bh=>exact mC (Kd.aw bW.1 HB.1));(case bj=>exact cd.1);(case bT=>exact mC (Kd.aw cD.1 HB.1));(case bU=>exact cL.1);rintro e C2 ⟨rfl,hb⟩;replace gN:=mB gN hb;replace HB:=J (ar (aI HB.1 oP.1) hb);(try clear hb);(try clear eO);(try clear hk);(try clear hi)));go_meet
    case rel=>exact⟨_,(true),mE,H',⟨by first|omega|exact Nat.le_refl _⟩,⟨mK gN.1⟩,⟨(aI HB.1 oP.1)⟩⟩
   ·rw[if_neg cY]at H;have o5:(t146 == 0)=false:=beq_eq_false_iff_ne.mpr cY;have Vp:(t146 != 0)=true:=bne_iff_ne.mpr cY
    (first|rw[o5]|(simp only[dJ,gx];rw[o5])|skip)
    have H':=J H;clear H;obtain⟨PQ,PR,WN,WO,Qh,Qi,Xf,Xg⟩:=bk gN.1;go_wp2_with (first|((with_reducible refine aJ (f:=11) rfl ?_);refine bA 13 Tryz.func11 #[.agg #[.slice aE ab.length av,.slice aq af.length ao,.slice aC aj.length aD,.int .i64 ak]] ?_;(with_reducible refine(kD.calls k _ _ ab _ _ af _ _ aj ak true _ ?az ?aA ?bh ?bj ?bT ?bU oM.1).mono ?_);(case az=>exact mC (Kd.aw ca.1 HB.1));(case aA=>exact cA.1);(case bh=>exact mC (Kd.aw bW.1 HB.1));(case bj=>exact cd.1);(case bT=>exact mC (Kd.aw cD.1 HB.1));(case bU=>exact cL.1);rintro e SD ⟨rfl,hb⟩;refine⟨_,rfl,?_⟩;replace gN:=mB gN hb;replace HB:=J (ar (aI HB.1 oP.1) hb);(try clear hb);obtain⟨J1,J2,J3,PS,Kj,Kk,Kl,Qj⟩:=bk gN.1)|(go_at_call 28;(with_reducible refine(eX.calls k _ _ ab _ _ af _ _ aj ak a1 t146 _ ?az ?aA ?bh ?bj ?bT ?bU De.1).mono ?_);(case az=>exact mC (Kd.aw ca.1 HB.1));(case aA=>exact cA.1);(case bh=>exact mC (Kd.aw bW.1 HB.1));(case bj=>exact cd.1);(case bT=>exact mC (Kd.aw cD.1 HB.1));(case bU=>exact cL.1);rintro e Ik ⟨rfl,hb⟩;replace gN:=mB gN hb;replace HB:=J (ar (aI HB.1 oP.1) hb);(try clear hb);(try clear eO);(try clear hk);(try clear hi)));go_meet
    case rel=>exact⟨_,(decide (t144<0)),mE,H',⟨by first|omega|exact Nat.le_refl _⟩,⟨mK gN.1⟩,⟨(aI HB.1 oP.1)⟩⟩
  ·replace ff:=Bool.eq_false_iff.mpr ff;subst ff;have H1:=H;rw[if_neg (show ¬(false=true) by decide)]at H1;clear H;have H:=H1;clear H1;have H':=J H;clear H;obtain⟨yZ,y6,y7,y8,zf,zg,zh,zi⟩:=bk gN.1;go_wp2_with (first|((with_reducible refine aJ (f:=11) rfl ?_);refine bA 13 Tryz.func11 #[.agg #[.slice aE ab.length av,.slice aq af.length ao,.slice aC aj.length aD,.int .i64 ak]] ?_;(with_reducible refine(kD.calls k _ _ ab _ _ af _ _ aj ak false _ ?az ?aA ?bh ?bj ?bT ?bU oM.1).mono ?_);(case az=>exact mC (Kd.aw ca.1 HB.1));(case aA=>exact cA.1);(case bh=>exact mC (Kd.aw bW.1 HB.1));(case bj=>exact cd.1);(case bT=>exact mC (Kd.aw cD.1 HB.1));(case bU=>exact cL.1);rintro e LH ⟨rfl,hb⟩;refine⟨_,rfl,?_⟩;replace gN:=mB gN hb;replace HB:=J (ar (aI HB.1 oP.1) hb);(try clear hb)));go_meet
   case rel=>exact⟨_,(true),mE,H',⟨by first|omega|exact Nat.le_refl _⟩,⟨mK gN.1⟩,⟨(aI HB.1 oP.1)⟩⟩
 case rest=>
  clear xW
  obtain⟨kq,LQ,rfl,HA,MP,gN,HB⟩:=hcut;cases kq with
  |zero=>exact absurd HA.1 (by simp[iw.j0])
  |succ YZ=>
   have H:=HA.1;clear HA;simp only[iw.j0]at H;by_cases lE:LQ=true
   ·subst lE;have H1:=H;rw[if_pos rfl]at H1;clear H;have H:=H1;clear H1;simp only[Option.some.injEq,Prod.mk.injEq]at H;obtain⟨rfl,rfl⟩:=H;go_wp2;go_ret2;exact⟨_,bN,by first|exact Kd.nH _ _ _ _ _|exact Kd.N_nil _ _ _ _ _|exact Kd.V_nil _ _ _ _ _|exact Kd.Q_nil _ _ _ _ _|exact Kd.rG _ _ _ _ _,(aI HB.1 oP.1)⟩
   ·replace lE:=Bool.eq_false_iff.mpr lE;subst lE;have H1:=H;rw[if_neg (show ¬(false=true) by decide)]at H1;clear H;have H:=H1;clear H1;by_cases o6:0≤t144
    ·rw[if_pos o6]at H;have apE:=decide_eq_true o6;clear o6;by_cases o7:t144<(ab.length:Int)
     ·rw[if_pos o7]at H;have apF:=decide_eq_true o7;clear o7;replace H:=Option.bind_eq_some_iff.mp H;obtain⟨t148,Ta,H⟩:=H;replace H:(some (t148,true))=some (r1,r2):=H;have A27:=J Ta;clear Ta;simp only[Option.some.injEq,Prod.mk.injEq]at H;obtain⟨rfl,rfl⟩:=H;obtain⟨PW,PX,PY,PZ,Qn,Qp,Qq,Qr⟩:=bk gN.1;have Ri:0≤(t144:Int):=mD;have RJ:t144<(ab.length:Int):=mD;obtain⟨apr,abc,ae4,afO,Ya,Yb,Yc,XJ,XB⟩:=hY ca.1 t144 Ri RJ;cases afO
      replace Ya:=mX HB.1 Ya;replace Yb:=mX HB.1 Yb;replace Yc:=mX HB.1 Yc;have ace:=J XB;have abL:=J XJ;clear XB XJ;replace Ri:=eq_true Ri;replace RJ:=eq_true RJ;go_wp2_with (first|((with_reducible refine aJ (f:=36) rfl ?_);refine bA 31 Tryz.func36 #[.slice abc ((ai ab t144).f1).length ae4] ?_;(with_reducible refine(wX.calls _ _ ((ai ab t144).f1) t148 _ ?az ?aA A27.1).mono ?_);(case az=>exact mC (Kd.aw ace.1 HB.1));(case aA=>exact abL.1);rintro e LI ⟨aye,rfl,bq,hb⟩;refine⟨_,rfl,?_⟩;have abT:=J (Kd.cg bq (bl (aI HB.1 oP.1)));replace gN:=mB gN hb;replace HB:=J (ar (aI HB.1 oP.1) hb);(try clear hb);(try clear bq)));go_ret2;exact⟨_,bN,mR abT.1,(aI HB.1 oP.1)⟩
     ·rw[if_neg o7]at H;exact absurd H (by simp)
    ·rw[if_neg o6]at H;exact absurd H (by simp)
end Go.Proofs.YtingkpnoiekliaaGreat.MZ
end
