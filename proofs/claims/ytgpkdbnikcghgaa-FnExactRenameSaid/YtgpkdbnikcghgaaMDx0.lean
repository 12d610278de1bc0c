-- Written by mp.py, our own printer (wip/mp.py), and made shorter by wip/mp_shrink*.py.
import Derived.Test.YtgpkdbnikcghgaaVMShort
import Derived.Test.YtgpkdbnikcghgaaProg
import Derived.Below
import Derived.Deep.Draws
import Derived.Deep.AppendLies
import Derived.Maps.AppendAt
import Derived.OwnWalk
import Derived.Laws.BytesArg
import Derived.Laws.MakeOwn
import Derived.Laws.OwnMore
import Derived.Deep.OwnRows
import Derived.Tactics
import Derived.Lib.ConvBytes
import Derived.Laws.Slices
import Derived.WalkKit
import Derived.KernelRfl
import Derived.RowKit3
import Derived.Deep.LoopGhost
import Derived.Deep.QuietTactic
import Derived.BigQuiet
import Derived.WideLaws
import Derived.Deep.DeepCutAuto
import Derived.Deep.CutBlock
import Derived.Deep.RegionHeld3
import Derived.Laws.Rows
import Derived.Lib.AppendStr
import Derived.ArgAppend
import Derived.Laws.IdiomCopy
import Derived.OrdersHeld
import Derived.Laws.BitsLemmas
import Derived.RowKit
import Derived.Test.YtgpkdbnikcghgaaVMWords
import Derived.Test.YtgpkdbnikcghgaaVWords
import Derived.Test.YtgpkdbnikcghgaaVLast
import Derived.Test.YtgpkdbnikcghgaaVTab
import Derived.Test.YtgpkdbnikcghgaaVFour
import Derived.Test.YtgpkdbnikcghgaaVQPut
import Derived.Test.YtgpkdbnikcghgaaVApart
import Derived.Test.YtgpkdbnikcghgaaVArr
import Derived.Test.YtgpkdbnikcghgaaVZeros
import Derived.Test.YtgpkdbnikcghgaaVFoot
import Derived.Test.YtgpkdbnikcghgaaVKept
import Derived.Test.YtgpkdbnikcghgaaVShare
import Derived.Test.YtgpkdbnikcghgaaVN
import Derived.Test.YtgpkdbnikcghgaaVFootNe
import Derived.Test.YtgpkdbnikcghgaaVAt
import Derived.Test.YtgpkdbnikcghgaaVEqStruct
import Derived.Test.YtgpkdbnikcghgaaVRepsOne
import Derived.Test.YtgpkdbnikcghgaaVInv
import Derived.Test.YtgpkdbnikcghgaaVInvWords
import Derived.Test.YtgpkdbnikcghgaaVGuard
import Derived.Test.YtgpkdbnikcghgaaVNEv
import Derived.Test.YtgpkdbnikcghgaaVMore
namespace Go.Proofs.Ytgpkdbnikcghgaa.MD
open Go.RowKit Go.Proofs.YtgpkdbnikcghgaaW.PrintWords Go.Proofs.YtgpkdbnikcghgaaW.PrintLast Go.Proofs.YtgpkdbnikcghgaaW.PrintMore Go.Proofs.Ytgpkdbnikcghgaa.MWords
attribute [local go_sem] max2_int min2_int max_two min_two max_three min_three max_four min_four
set_option linter.unusedVariables false
set_option linter.unusedSimpArgs false
def aKG:Option Int→Value
 |none=>.nilIface
 |some c=>.iface 0 (.int .i64 c)
theorem ED:(Try.prog.info? 5).map (fun i=>(i.zero,i.size,i.bytes))=some (some (.int .u8 0),1,1):=by kernel_rfl
theorem rv:(Try.prog.info? 63).map (fun i=>(i.zero,i.size,i.bytes))=some (some (.agg #[(.string ⟨#[]⟩),(.int .i64 0)]),2,24):=by kernel_rfl
theorem IN:(Try.prog.info? 80).map (fun i=>(i.zero,i.size,i.bytes))=some (some (.agg #[(.int .i64 0),(.slice none 0 0),(.int .i64 0)]),3,40):=by kernel_rfl
def aSf (xs:List (List Int)) (i:Int):(List Int):=xs.getD i.toNat ([]:List Int)
structure ib where
 f0:Int
 f1:(List Int)
 f2:Int
def z93:ib:=⟨(0:Int),([]:List Int),(0:Int)⟩
def zi:Kd ib:=Kd.uz (Kd.pair (Kd.int .i64) (Kd.pair (Kd.slice 5 (Kd.int .u8)) (Kd.int .i64))) (fun x:ib=>(x.f0,x.f1,x.f2))
theorem aHl {w:World} {x:ib} {cs:List Value} (h:zi.K w x cs):∃A1 c1,cs=[.int .i64 x.f0,.slice A1 x.f1.length c1,.int .i64 x.f2]∧x.f1.length≤c1∧(Kd.int .u8).C w A1 x.f1.length x.f1:=by
 obtain⟨_,_,rfl,rfl,⟨_,_,rfl,⟨A1,c1,rfl,l1,g1⟩,rfl⟩⟩:=h;exact⟨A1,c1,rfl,l1,g1⟩
def nA (xs:List ib) (i:Int):ib:=xs.getD i.toNat z93
theorem agr {w:World} {A:Option Addr} {n:Nat} {xs:List ib} (h:Kd.C zi w A n xs) (i:Int) (h0:0≤i) (h1:i<n):∃ad A1 c1,A=some ad∧w.cell? (ad.add (i.toNat*3))=some (.int .i64 (nA xs i).f0)∧w.cell? ⟨(ad.add (i.toNat*3)).block,(ad.add (i.toNat*3)).off+1,none⟩=some (.slice A1 (nA xs i).f1.length c1)∧w.cell? ⟨(ad.add (i.toNat*3)).block,(ad.add (i.toNat*3)).off+2,none⟩=some (.int .i64 (nA xs i).f2)∧(nA xs i).f1.length≤c1∧(Kd.int .u8).C w A1 (nA xs i).f1.length (nA xs i).f1:=by
 obtain⟨ad,c,e,_,hK,fi⟩:=Kd.OA h z93 i h0 h1;have hc:∀j u,c[j]? = some u→w.cell? (ad.add (i.toNat*3+j))=some u:=fi;obtain⟨A1,c1,rfl,l1,g1⟩:=aHl hK;exact⟨ad,A1,c1,e,hc 0 _ rfl,by rw[←Af _ _ 1 (by omega)];exact hc 1 _ rfl,by rw[←Af _ _ 2 (by omega)];exact hc 2 _ rfl,l1,g1⟩
structure eR where
 f0:ByteArray
 f1:Int
def uc:eR:=⟨(⟨#[]⟩:ByteArray),(0:Int)⟩
def sy:Kd eR:=Kd.uz (Kd.pair Kd.string (Kd.int .i64)) (fun x:eR=>(x.f0,x.f1))
theorem aHm {w:World} {x:eR} {cs:List Value} (h:sy.K w x cs):cs=[.string x.f0,.int .i64 x.f1]:=by
 obtain⟨_,_,rfl,rfl,rfl⟩:=h;exact rfl
def rB (xs:List eR) (i:Int):eR:=xs.getD i.toNat uc
theorem ags {w:World} {A:Option Addr} {n:Nat} {xs:List eR} (h:Kd.C sy w A n xs) (i:Int) (h0:0≤i) (h1:i<n):∃ad , A=some ad∧w.cell? (ad.add (i.toNat*2))=some (.string (rB xs i).f0)∧w.cell? ⟨(ad.add (i.toNat*2)).block,(ad.add (i.toNat*2)).off+1,none⟩=some (.int .i64 (rB xs i).f1):=by
 obtain⟨ad,c,e,_,hK,fi⟩:=Kd.OA h uc i h0 h1;have hc:∀j u,c[j]? = some u→w.cell? (ad.add (i.toNat*2+j))=some u:=fi;obtain rfl:=aHm hK;exact⟨ad,e,hc 0 _ rfl,by rw[←Af _ _ 1 (by omega)];exact hc 1 _ rfl⟩
structure ak where
 f0:Int
 f1:(List Int)
 f2:Int
def z80:ak:=⟨(0:Int),([]:List Int),(0:Int)⟩
def bF:Kd ak:=Kd.uz (Kd.pair (Kd.int .i64) (Kd.pair (Kd.slice 5 (Kd.int .u8)) (Kd.int .i64))) (fun x:ak=>(x.f0,x.f1,x.f2))
theorem aav:Kd.Heap bF:=Kd.apY _ (Kd.aiA (Kd.acw .i64) (Kd.aiA (Kd.aCC 5 (Kd.acw .u8)) (Kd.acw .i64)))
theorem akc {w:World} {x:ak} {cs:List Value} (h:bF.K w x cs):∃A1 c1,cs=[.int .i64 x.f0,.slice A1 x.f1.length c1,.int .i64 x.f2]∧x.f1.length≤c1∧(Kd.int .u8).C w A1 x.f1.length x.f1:=by
 obtain⟨_,_,rfl,rfl,⟨_,_,rfl,⟨A1,c1,rfl,l1,g1⟩,rfl⟩⟩:=h;exact⟨A1,c1,rfl,l1,g1⟩
theorem Qo {w:World} {base:Nat} {ok:Nat→Prop} {x:ak} {cs:List Value} (h:bF.M w base ok x cs):∃v1,cs=[.int .i64 x.f0,v1,.int .i64 x.f2]∧(Kd.int .u8).R 5 w base ok v1 x.f1:=by
 obtain⟨_,_,rfl,rfl,⟨_,_,rfl,⟨v1,rfl,g1⟩,rfl⟩⟩:=h;exact⟨v1,rfl,g1⟩
theorem aHk (w:World) (x:ak) {A1:Option Addr} {c1:Nat} (l1:x.f1.length≤c1) (g1:(Kd.int .u8).C w A1 x.f1.length x.f1):bF.K w x [.int .i64 x.f0,.slice A1 x.f1.length c1,.int .i64 x.f2]:=⟨[.int .i64 x.f0],[.slice A1 x.f1.length c1,.int .i64 x.f2],rfl,rfl,⟨[.slice A1 x.f1.length c1],[.int .i64 x.f2],rfl,⟨A1,c1,rfl,l1,g1⟩,rfl⟩⟩
theorem IQ (w:World) (base:Nat) (ok:Nat→Prop) (x:ak) {v1:Value} (g1:(Kd.int .u8).R 5 w base ok v1 x.f1):bF.M w base ok x [.int .i64 x.f0,v1,.int .i64 x.f2]:=⟨[.int .i64 x.f0],[v1,.int .i64 x.f2],rfl,rfl,⟨[v1],[.int .i64 x.f2],rfl,⟨v1,rfl,g1⟩,rfl⟩⟩
theorem TD {W:World} {ok:Nat→Prop} {x:ak} {cs:List Value} (h:Kd.FK bF W ok x cs):∃A1 c1,cs=[.int .i64 x.f0,.slice A1 x.f1.length c1,.int .i64 x.f2]∧x.f1.length≤c1∧Kd.F (Kd.int .u8) W ok A1 x.f1.length x.f1:=by
 obtain⟨A1,c1,rfl,l1,_⟩:=akc (Kd.Sc h);exact⟨A1,c1,rfl,l1,(fun W' hW=>by obtain⟨A1_,c1_,he,l1_,vU⟩:=akc (h W' hW);injection (Option.some.inj (show some (Value.slice A1 x.f1.length c1)=some (Value.slice A1_ x.f1.length c1_) from congrArg (fun l=>l[1]?) he)) with ha_ _ _;rw[ha_];exact vU)⟩
theorem adf (W:World) (ok:Nat→Prop) (x:ak) {A1:Option Addr} {c1:Nat} (l1:x.f1.length≤c1) (g1:Kd.F (Kd.int .u8) W ok A1 x.f1.length x.f1):Kd.FK bF W ok x [.int .i64 x.f0,.slice A1 x.f1.length c1,.int .i64 x.f2]:=fun W2 hW=>aHk W2 x l1 (g1 W2 hW)
def aa (xs:List ak) (i:Int):ak:=xs.getD i.toNat z80
theorem ny {w:World} {A:Option Addr} {n:Nat} {xs:List ak} (h:Kd.C bF w A n xs) (i:Int) (h0:0≤i) (h1:i<n):∃ad A1 c1,A=some ad∧w.cell? (ad.add (i.toNat*3))=some (.int .i64 (aa xs i).f0)∧w.cell? ⟨(ad.add (i.toNat*3)).block,(ad.add (i.toNat*3)).off+1,none⟩=some (.slice A1 (aa xs i).f1.length c1)∧w.cell? ⟨(ad.add (i.toNat*3)).block,(ad.add (i.toNat*3)).off+2,none⟩=some (.int .i64 (aa xs i).f2)∧(aa xs i).f1.length≤c1∧(Kd.int .u8).C w A1 (aa xs i).f1.length (aa xs i).f1:=by
 obtain⟨ad,c,e,_,hK,fi⟩:=Kd.OA h z80 i h0 h1;have hc:∀j u,c[j]? = some u→w.cell? (ad.add (i.toNat*3+j))=some u:=fi;obtain⟨A1,c1,rfl,l1,g1⟩:=akc hK;exact⟨ad,A1,c1,e,hc 0 _ rfl,by rw[←Af _ _ 1 (by omega)];exact hc 1 _ rfl,by rw[←Af _ _ 2 (by omega)];exact hc 2 _ rfl,l1,g1⟩
structure ai where
 f0:ByteArray
 f1:Int
def qU:ai:=⟨(⟨#[]⟩:ByteArray),(0:Int)⟩
def aK:Kd ai:=Kd.uz (Kd.pair Kd.string (Kd.int .i64)) (fun x:ai=>(x.f0,x.f1))
theorem IP:Kd.Heap aK:=Kd.apY _ (Kd.aiA Kd.aCD (Kd.acw .i64))
theorem aHj {w:World} {x:ai} {cs:List Value} (h:aK.K w x cs):cs=[.string x.f0,.int .i64 x.f1]:=by
 obtain⟨_,_,rfl,rfl,rfl⟩:=h;exact rfl
theorem Qn {w:World} {base:Nat} {ok:Nat→Prop} {x:ai} {cs:List Value} (h:aK.M w base ok x cs):cs=[.string x.f0,.int .i64 x.f1]:=by
 obtain⟨_,_,rfl,rfl,rfl⟩:=h;exact rfl
theorem yv (w:World) (base:Nat) (ok:Nat→Prop) (x:ai)  : aK.M w base ok x [.string x.f0,.int .i64 x.f1]:=⟨[.string x.f0],[.int .i64 x.f1],rfl,rfl,rfl⟩
def aq (xs:List ai) (i:Int):ai:=xs.getD i.toNat qU
theorem lB {w:World} {A:Option Addr} {n:Nat} {xs:List ai} (h:Kd.C aK w A n xs) (i:Int) (h0:0≤i) (h1:i<n):∃ad , A=some ad∧w.cell? (ad.add (i.toNat*2))=some (.string (aq xs i).f0)∧w.cell? ⟨(ad.add (i.toNat*2)).block,(ad.add (i.toNat*2)).off+1,none⟩=some (.int .i64 (aq xs i).f1):=by
 obtain⟨ad,c,e,_,hK,fi⟩:=Kd.OA h qU i h0 h1;have hc:∀j u,c[j]? = some u→w.cell? (ad.add (i.toNat*2+j))=some u:=fi;obtain rfl:=aHj hK;exact⟨ad,e,hc 0 _ rfl,by rw[←Af _ _ 1 (by omega)];exact hc 1 _ rfl⟩
def aSg (xs:List (List ak)) (i:Int):(List ak):=xs.getD i.toNat ([]:List ak)
def aSh (xs:List (List ai)) (i:Int):(List ai):=xs.getD i.toNat ([]:List ai)
structure WK where
 f0:(List ak)
 f1:(List ai)
 f2:(List ai)
 f3:Int
def z30:WK:=⟨([]:List ak),([]:List ai),([]:List ai),(0:Int)⟩
def k30:Kd WK:=Kd.uz (Kd.pair (Kd.slice 80 bF) (Kd.pair (Kd.slice 63 aK) (Kd.pair (Kd.slice 63 aK) (Kd.int .i64)))) (fun x:WK=>(x.f0,x.f1,x.f2,x.f3))
def aSj (xs:List WK) (i:Int):WK:=xs.getD i.toNat z30
def aSc (xs:List (List ByteArray)) (i:Int):(List ByteArray):=xs.getD i.toNat ([]:List ByteArray)
def aSd (xs:List (List ib)) (i:Int):(List ib):=xs.getD i.toNat ([]:List ib)
def aSe (xs:List (List eR)) (i:Int):(List eR):=xs.getD i.toNat ([]:List eR)
structure pG where
 f0:(List ib)
 f1:(List eR)
 f2:(List eR)
 f3:Int
def z25:pG:=⟨([]:List ib),([]:List eR),([]:List eR),(0:Int)⟩
def k25:Kd pG:=Kd.uz (Kd.pair (Kd.slice 93 zi) (Kd.pair (Kd.slice 95 sy) (Kd.pair (Kd.slice 95 sy) (Kd.int .i64)))) (fun x:pG=>(x.f0,x.f1,x.f2,x.f3))
theorem ade {w:World} {x:pG} {cs:List Value} (h:k25.K w x cs):∃A0 c0 A1 c1 A2 c2,cs=[.slice A0 x.f0.length c0,.slice A1 x.f1.length c1,.slice A2 x.f2.length c2,.int .i64 x.f3]∧x.f0.length≤c0∧zi.C w A0 x.f0.length x.f0∧x.f1.length≤c1∧sy.C w A1 x.f1.length x.f1∧x.f2.length≤c2∧sy.C w A2 x.f2.length x.f2:=by
 obtain⟨_,_,rfl,⟨A0,c0,rfl,l0,g0⟩,⟨_,_,rfl,⟨A1,c1,rfl,l1,g1⟩,⟨_,_,rfl,⟨A2,c2,rfl,l2,g2⟩,rfl⟩⟩⟩:=h;exact⟨A0,c0,A1,c1,A2,c2,rfl,l0,g0,l1,g1,l2,g2⟩
def aSi (xs:List pG) (i:Int):pG:=xs.getD i.toNat z25
end Go.Proofs.Ytgpkdbnikcghgaa.MD
