-- Written by mp.py, our own printer (wip/mp.py), and made shorter by wip/mp_shrink*.py.
import Derived.Test.YtgpkdbnikcghgaaVAll
import Derived.Test.YtgpkdbnikcghgaaProg
import Derived.Below
import Derived.Deep.Draws
import Derived.Deep.AppendLies
import Derived.Maps.AppendAt
import Derived.OwnWalk
import Derived.Laws.BytesArg
import Derived.Laws.MakeOwn
import Derived.Laws.OwnMore
import Derived.Deep.OwnRows
import Derived.Tactics
import Derived.Lib.ConvBytes
import Derived.Laws.Slices
import Derived.WalkKit
import Derived.KernelRfl
import Derived.RowKit3
import Derived.Deep.LoopGhost
import Derived.Deep.QuietTactic
import Derived.BigQuiet
import Derived.WideLaws
import Derived.Deep.DeepCutAuto
import Derived.Deep.CutBlock
import Derived.Deep.RegionHeld3
import Derived.Laws.Rows
import Derived.Lib.AppendStr
import Derived.ArgAppend
import Derived.Laws.IdiomCopy
import Derived.OrdersHeld
import Derived.Laws.BitsLemmas
import Derived.RowKit
namespace Go.Proofs.Ytgpkdbnikcghgaa.MD
open Go.RowKit Go.Proofs.YtgpkdbnikcghgaaW.PrintWords Go.Proofs.YtgpkdbnikcghgaaW.PrintLast Go.Proofs.YtgpkdbnikcghgaaW.PrintMore Go.Proofs.Ytgpkdbnikcghgaa.MWords
attribute [local go_sem] max2_int min2_int max_two min_two max_three min_three max_four min_four
set_option linter.unusedVariables false
set_option linter.unusedSimpArgs false
def asf:Option Int→Value
 |none=>.nilIface
 |some c=>.iface 0 (.int .i64 c)
theorem DC:(Try.prog.info? 5).map (fun i=>(i.zero,i.size,i.bytes))=some (some (.int .u8 0),1,1):=by kernel_rfl
theorem aoa:(Try.prog.info? 9).map (fun i=>(i.zero,i.size,i.bytes))=some (some (.string ⟨#[]⟩),1,16):=by kernel_rfl
theorem iZ:(Try.prog.info? 63).map (fun i=>(i.zero,i.size,i.bytes))=some (some (.agg #[(.string ⟨#[]⟩),(.int .i64 0)]),2,24):=by kernel_rfl
theorem xM:(Try.prog.info? 80).map (fun i=>(i.zero,i.size,i.bytes))=some (some (.agg #[(.int .i64 0),(.slice none 0 0),(.int .i64 0)]),3,40):=by kernel_rfl
def aA9 (xs:List (List Int)) (i:Int):(List Int):=xs.getD i.toNat ([]:List Int)
structure vA where
 f0:Int
 f1:(List Int)
 f2:Int
def z93:vA:=⟨(0:Int),([]:List Int),(0:Int)⟩
def k93:Kd vA:=Kd.xP (Kd.pair (Kd.int .i64) (Kd.pair (Kd.slice 5 (Kd.int .u8)) (Kd.int .i64))) (fun x:vA=>(x.f0,x.f1,x.f2))
def aBe (xs:List vA) (i:Int):vA:=xs.getD i.toNat z93
structure sS where
 f0:ByteArray
 f1:Int
def z95:sS:=⟨(⟨#[]⟩:ByteArray),(0:Int)⟩
def k95:Kd sS:=Kd.xP (Kd.pair Kd.string (Kd.int .i64)) (fun x:sS=>(x.f0,x.f1))
def aBf (xs:List sS) (i:Int):sS:=xs.getD i.toNat z95
structure aj where
 f0:Int
 f1:(List Int)
 f2:Int
def z80:aj:=⟨(0:Int),([]:List Int),(0:Int)⟩
def bu:Kd aj:=Kd.xP (Kd.pair (Kd.int .i64) (Kd.pair (Kd.slice 5 (Kd.int .u8)) (Kd.int .i64))) (fun x:aj=>(x.f0,x.f1,x.f2))
theorem L7:Kd.Heap bu:=Kd.ZV _ (Kd.RH (Kd.Li .i64) (Kd.RH (Kd.aln 5 (Kd.Li .u8)) (Kd.Li .i64)))
theorem S7 {w:World} {x:aj} {cs:List Value} (h:bu.K w x cs):∃A1 c1,cs=[.int .i64 x.f0,.slice A1 x.f1.length c1,.int .i64 x.f2]∧x.f1.length≤c1∧(Kd.int .u8).C w A1 x.f1.length x.f1:=by
 obtain⟨_,_,rfl,rfl,⟨_,_,rfl,⟨A1,c1,rfl,l1,g1⟩,rfl⟩⟩:=h;exact⟨A1,c1,rfl,l1,g1⟩
theorem Ix {w:World} {base:Nat} {ok:Nat→Prop} {x:aj} {cs:List Value} (h:bu.M w base ok x cs):∃v1,cs=[.int .i64 x.f0,v1,.int .i64 x.f2]∧(Kd.int .u8).R 5 w base ok v1 x.f1:=by
 obtain⟨_,_,rfl,rfl,⟨_,_,rfl,⟨v1,rfl,g1⟩,rfl⟩⟩:=h;exact⟨v1,rfl,g1⟩
theorem aog (w:World) (x:aj) {A1:Option Addr} {c1:Nat} (l1:x.f1.length≤c1) (g1:(Kd.int .u8).C w A1 x.f1.length x.f1):bu.K w x [.int .i64 x.f0,.slice A1 x.f1.length c1,.int .i64 x.f2]:=⟨[.int .i64 x.f0],[.slice A1 x.f1.length c1,.int .i64 x.f2],rfl,rfl,⟨[.slice A1 x.f1.length c1],[.int .i64 x.f2],rfl,⟨A1,c1,rfl,l1,g1⟩,rfl⟩⟩
theorem DE (w:World) (base:Nat) (ok:Nat→Prop) (x:aj) {v1:Value} (g1:(Kd.int .u8).R 5 w base ok v1 x.f1):bu.M w base ok x [.int .i64 x.f0,v1,.int .i64 x.f2]:=⟨[.int .i64 x.f0],[v1,.int .i64 x.f2],rfl,rfl,⟨[v1],[.int .i64 x.f2],rfl,⟨v1,rfl,g1⟩,rfl⟩⟩
theorem pk {W:World} {ok:Nat→Prop} {x:aj} {cs:List Value} (h:Kd.FK bu W ok x cs):∃A1 c1,cs=[.int .i64 x.f0,.slice A1 x.f1.length c1,.int .i64 x.f2]∧x.f1.length≤c1∧Kd.F (Kd.int .u8) W ok A1 x.f1.length x.f1:=by
 obtain⟨A1,c1,rfl,l1,_⟩:=S7 (Kd.yx h);exact⟨A1,c1,rfl,l1,(fun W' hW=>by obtain⟨A1_,c1_,he,l1_,oa⟩:=S7 (h W' hW);injection (Option.some.inj (show some (Value.slice A1 x.f1.length c1)=some (Value.slice A1_ x.f1.length c1_) from congrArg (fun l=>l[1]?) he)) with ha_ _ _;rw[ha_];exact oa)⟩
theorem zn (W:World) (ok:Nat→Prop) (x:aj) {A1:Option Addr} {c1:Nat} (l1:x.f1.length≤c1) (g1:Kd.F (Kd.int .u8) W ok A1 x.f1.length x.f1):Kd.FK bu W ok x [.int .i64 x.f0,.slice A1 x.f1.length c1,.int .i64 x.f2]:=fun W2 hW=>aog W2 x l1 (g1 W2 hW)
def aa (xs:List aj) (i:Int):aj:=xs.getD i.toNat z80
theorem jg {w:World} {A:Option Addr} {n:Nat} {xs:List aj} (h:Kd.C bu w A n xs) (i:Int) (h0:0≤i) (h1:i<n):∃ad A1 c1,A=some ad∧w.cell? (ad.add (i.toNat*3))=some (.int .i64 (aa xs i).f0)∧w.cell? ⟨(ad.add (i.toNat*3)).block,(ad.add (i.toNat*3)).off+1,none⟩=some (.slice A1 (aa xs i).f1.length c1)∧w.cell? ⟨(ad.add (i.toNat*3)).block,(ad.add (i.toNat*3)).off+2,none⟩=some (.int .i64 (aa xs i).f2)∧(aa xs i).f1.length≤c1∧(Kd.int .u8).C w A1 (aa xs i).f1.length (aa xs i).f1:=by
 obtain⟨ad,c,e,_,hK,gE⟩:=Kd.Eu h z80 i h0 h1;have hc:∀j u,c[j]? = some u→w.cell? (ad.add (i.toNat*3+j))=some u:=gE;obtain⟨A1,c1,rfl,l1,g1⟩:=S7 hK;exact⟨ad,A1,c1,e,hc 0 _ rfl,by rw[←o5 _ _ 1 (by omega)];exact hc 1 _ rfl,by rw[←o5 _ _ 2 (by omega)];exact hc 2 _ rfl,l1,g1⟩
structure ah where
 f0:ByteArray
 f1:Int
def zX:ah:=⟨(⟨#[]⟩:ByteArray),(0:Int)⟩
def ay:Kd ah:=Kd.xP (Kd.pair Kd.string (Kd.int .i64)) (fun x:ah=>(x.f0,x.f1))
theorem zm:Kd.Heap ay:=Kd.ZV _ (Kd.RH Kd.alo (Kd.Li .i64))
theorem aoe {w:World} {x:ah} {cs:List Value} (h:ay.K w x cs):cs=[.string x.f0,.int .i64 x.f1]:=by
 obtain⟨_,_,rfl,rfl,rfl⟩:=h;exact rfl
theorem aof {w:World} {base:Nat} {ok:Nat→Prop} {x:ah} {cs:List Value} (h:ay.M w base ok x cs):cs=[.string x.f0,.int .i64 x.f1]:=by
 obtain⟨_,_,rfl,rfl,rfl⟩:=h;exact rfl
theorem rn (w:World) (base:Nat) (ok:Nat→Prop) (x:ah)  : ay.M w base ok x [.string x.f0,.int .i64 x.f1]:=⟨[.string x.f0],[.int .i64 x.f1],rfl,rfl,rfl⟩
def av (xs:List ah) (i:Int):ah:=xs.getD i.toNat zX
theorem gZ {w:World} {A:Option Addr} {n:Nat} {xs:List ah} (h:Kd.C ay w A n xs) (i:Int) (h0:0≤i) (h1:i<n):∃ad , A=some ad∧w.cell? (ad.add (i.toNat*2))=some (.string (av xs i).f0)∧w.cell? ⟨(ad.add (i.toNat*2)).block,(ad.add (i.toNat*2)).off+1,none⟩=some (.int .i64 (av xs i).f1):=by
 obtain⟨ad,c,e,_,hK,gE⟩:=Kd.Eu h zX i h0 h1;have hc:∀j u,c[j]? = some u→w.cell? (ad.add (i.toNat*2+j))=some u:=gE;obtain rfl:=aoe hK;exact⟨ad,e,hc 0 _ rfl,by rw[←o5 _ _ 1 (by omega)];exact hc 1 _ rfl⟩
def aBa (xs:List (List aj)) (i:Int):(List aj):=xs.getD i.toNat ([]:List aj)
def aBb (xs:List (List ah)) (i:Int):(List ah):=xs.getD i.toNat ([]:List ah)
structure nw where
 f0:(List aj)
 f1:(List ah)
 f2:(List ah)
 f3:Int
def z30:nw:=⟨([]:List aj),([]:List ah),([]:List ah),(0:Int)⟩
def Iw:Kd nw:=Kd.xP (Kd.pair (Kd.slice 80 bu) (Kd.pair (Kd.slice 63 ay) (Kd.pair (Kd.slice 63 ay) (Kd.int .i64)))) (fun x:nw=>(x.f0,x.f1,x.f2,x.f3))
theorem aod {w:World} {x:nw} {cs:List Value} (h:Iw.K w x cs):∃A0 c0 A1 c1 A2 c2,cs=[.slice A0 x.f0.length c0,.slice A1 x.f1.length c1,.slice A2 x.f2.length c2,.int .i64 x.f3]∧x.f0.length≤c0∧bu.C w A0 x.f0.length x.f0∧x.f1.length≤c1∧ay.C w A1 x.f1.length x.f1∧x.f2.length≤c2∧ay.C w A2 x.f2.length x.f2:=by
 obtain⟨_,_,rfl,⟨A0,c0,rfl,l0,g0⟩,⟨_,_,rfl,⟨A1,c1,rfl,l1,g1⟩,⟨_,_,rfl,⟨A2,c2,rfl,l2,g2⟩,rfl⟩⟩⟩:=h;exact⟨A0,c0,A1,c1,A2,c2,rfl,l0,g0,l1,g1,l2,g2⟩
theorem L6 (w:World) (x:nw) {A0:Option Addr} {c0:Nat} (l0:x.f0.length≤c0) (g0:bu.C w A0 x.f0.length x.f0) {A1:Option Addr} {c1:Nat} (l1:x.f1.length≤c1) (g1:ay.C w A1 x.f1.length x.f1) {A2:Option Addr} {c2:Nat} (l2:x.f2.length≤c2) (g2:ay.C w A2 x.f2.length x.f2):Iw.K w x [.slice A0 x.f0.length c0,.slice A1 x.f1.length c1,.slice A2 x.f2.length c2,.int .i64 x.f3]:=⟨[.slice A0 x.f0.length c0],[.slice A1 x.f1.length c1,.slice A2 x.f2.length c2,.int .i64 x.f3],rfl,⟨A0,c0,rfl,l0,g0⟩,⟨[.slice A1 x.f1.length c1],[.slice A2 x.f2.length c2,.int .i64 x.f3],rfl,⟨A1,c1,rfl,l1,g1⟩,⟨[.slice A2 x.f2.length c2],[.int .i64 x.f3],rfl,⟨A2,c2,rfl,l2,g2⟩,rfl⟩⟩⟩
def aBd (xs:List nw) (i:Int):nw:=xs.getD i.toNat z30
def aA6 (xs:List (List ByteArray)) (i:Int):(List ByteArray):=xs.getD i.toNat ([]:List ByteArray)
def aA7 (xs:List (List vA)) (i:Int):(List vA):=xs.getD i.toNat ([]:List vA)
def aA8 (xs:List (List sS)) (i:Int):(List sS):=xs.getD i.toNat ([]:List sS)
structure E9 where
 f0:(List vA)
 f1:(List sS)
 f2:(List sS)
 f3:Int
def z25:E9:=⟨([]:List vA),([]:List sS),([]:List sS),(0:Int)⟩
def k25:Kd E9:=Kd.xP (Kd.pair (Kd.slice 93 k93) (Kd.pair (Kd.slice 95 k95) (Kd.pair (Kd.slice 95 k95) (Kd.int .i64)))) (fun x:E9=>(x.f0,x.f1,x.f2,x.f3))
def aBc (xs:List E9) (i:Int):E9:=xs.getD i.toNat z25
end Go.Proofs.Ytgpkdbnikcghgaa.MD
