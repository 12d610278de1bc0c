-- Written by mp.py, our own printer (wip/mp.py), and made shorter by wip/mp_shrink*.py.
import Derived.Test.YtgpkdbnikcghgaaVMShort
import Derived.Test.YtgpkdbnikcghgaaProg
import Derived.Below
import Derived.Deep.Draws
import Derived.Deep.AppendLies
import Derived.Maps.AppendAt
import Derived.OwnWalk
import Derived.Laws.BytesArg
import Derived.Laws.MakeOwn
import Derived.Laws.OwnMore
import Derived.Deep.OwnRows
import Derived.Tactics
import Derived.Lib.ConvBytes
import Derived.Laws.Slices
import Derived.WalkKit
import Derived.KernelRfl
import Derived.RowKit3
import Derived.Deep.LoopGhost
import Derived.Deep.QuietTactic
import Derived.BigQuiet
import Derived.WideLaws
import Derived.Deep.DeepCutAuto
import Derived.Deep.CutBlock
import Derived.Deep.RegionHeld3
import Derived.Laws.Rows
import Derived.Lib.AppendStr
import Derived.ArgAppend
import Derived.Laws.IdiomCopy
import Derived.OrdersHeld
import Derived.Laws.BitsLemmas
import Derived.RowKit
import Derived.Test.YtgpkdbnikcghgaaVMWords
import Derived.Test.YtgpkdbnikcghgaaVWords
import Derived.Test.YtgpkdbnikcghgaaVLast
import Derived.Test.YtgpkdbnikcghgaaVTab
import Derived.Test.YtgpkdbnikcghgaaVFour
import Derived.Test.YtgpkdbnikcghgaaVQPut
import Derived.Test.YtgpkdbnikcghgaaVApart
import Derived.Test.YtgpkdbnikcghgaaVArr
import Derived.Test.YtgpkdbnikcghgaaVZeros
import Derived.Test.YtgpkdbnikcghgaaVFoot
import Derived.Test.YtgpkdbnikcghgaaVKept
import Derived.Test.YtgpkdbnikcghgaaVShare
import Derived.Test.YtgpkdbnikcghgaaVN
import Derived.Test.YtgpkdbnikcghgaaVFootNe
import Derived.Test.YtgpkdbnikcghgaaVAt
import Derived.Test.YtgpkdbnikcghgaaVEqStruct
import Derived.Test.YtgpkdbnikcghgaaVRepsOne
import Derived.Test.YtgpkdbnikcghgaaVInv
import Derived.Test.YtgpkdbnikcghgaaVInvWords
import Derived.Test.YtgpkdbnikcghgaaVGuard
import Derived.Test.YtgpkdbnikcghgaaVNEv
import Derived.Test.YtgpkdbnikcghgaaVMore
namespace Go.Proofs.Ytgpkdbnikcghgaa.MD
open Go.RowKit Go.Proofs.YtgpkdbnikcghgaaW.PrintWords Go.Proofs.YtgpkdbnikcghgaaW.PrintLast Go.Proofs.YtgpkdbnikcghgaaW.PrintMore Go.Proofs.Ytgpkdbnikcghgaa.MWords
attribute [local go_sem] max2_int min2_int max_two min_two max_three min_three max_four min_four
set_option linter.unusedVariables false
set_option linter.unusedSimpArgs false
def errW:Option Int→Value
 |none=>.nilIface
 |some c=>.iface 0 (.int .i64 c)
theorem errW_none:errW none = .nilIface:=rfl
theorem errW_some (c:Int):errW (some c) = .iface 0 (.int .i64 c):=rfl
theorem info5:(Try.prog.info? 5).map (fun i=>(i.zero,i.size,i.bytes))=some (some (.int .u8 0),1,1):=by kernel_rfl
theorem info63:(Try.prog.info? 63).map (fun i=>(i.zero,i.size,i.bytes))=some (some (.agg #[(.string ⟨#[]⟩),(.int .i64 0)]),2,24):=by kernel_rfl
theorem info80:(Try.prog.info? 80).map (fun i=>(i.zero,i.size,i.bytes))=some (some (.agg #[(.int .i64 0),(.slice none 0 0),(.int .i64 0)]),3,40):=by kernel_rfl
def rd_L2 (xs:List (List Int)) (i:Int):(List Int):=xs.getD i.toNat ([]:List Int)
structure S93 where
 f0:Int
 f1:(List Int)
 f2:Int
def z93:S93:=⟨(0:Int),([]:List Int),(0:Int)⟩
def k93:Kd S93:=Kd.iso (Kd.pair (Kd.int .i64) (Kd.pair (Kd.slice 5 (Kd.int .u8)) (Kd.int .i64))) (fun x:S93=>(x.f0,x.f1,x.f2))
theorem k93_open {w:World} {x:S93} {cs:List Value} (h:k93.K w x cs):∃A1 c1,cs=[.int .i64 x.f0,.slice A1 x.f1.length c1,.int .i64 x.f2]∧x.f1.length≤c1∧(Kd.int .u8).C w A1 x.f1.length x.f1:=by
 obtain⟨_,_,rfl,rfl,⟨_,_,rfl,⟨A1,c1,rfl,l1,g1⟩,rfl⟩⟩:=h;exact⟨A1,c1,rfl,l1,g1⟩
def rd_T93 (xs:List S93) (i:Int):S93:=xs.getD i.toNat z93
theorem at_T93 {w:World} {A:Option Addr} {n:Nat} {xs:List S93} (h:Kd.C k93 w A n xs) (i:Int) (h0:0≤i) (h1:i<n):∃ad A1 c1,A=some ad∧w.cell? (ad.add (i.toNat*3))=some (.int .i64 (rd_T93 xs i).f0)∧w.cell? ⟨(ad.add (i.toNat*3)).block,(ad.add (i.toNat*3)).off+1,none⟩=some (.slice A1 (rd_T93 xs i).f1.length c1)∧w.cell? ⟨(ad.add (i.toNat*3)).block,(ad.add (i.toNat*3)).off+2,none⟩=some (.int .i64 (rd_T93 xs i).f2)∧(rd_T93 xs i).f1.length≤c1∧(Kd.int .u8).C w A1 (rd_T93 xs i).f1.length (rd_T93 xs i).f1:=by
 obtain⟨ad,c,e,_,hK,hc0⟩:=Kd.C_get h z93 i h0 h1;have hc:∀j u,c[j]? = some u→w.cell? (ad.add (i.toNat*3+j))=some u:=hc0;obtain⟨A1,c1,rfl,l1,g1⟩:=k93_open hK;exact⟨ad,A1,c1,e,hc 0 _ rfl,by rw[←add_field _ _ 1 (by omega)];exact hc 1 _ rfl,by rw[←add_field _ _ 2 (by omega)];exact hc 2 _ rfl,l1,g1⟩
structure S95 where
 f0:ByteArray
 f1:Int
def z95:S95:=⟨(⟨#[]⟩:ByteArray),(0:Int)⟩
def k95:Kd S95:=Kd.iso (Kd.pair Kd.string (Kd.int .i64)) (fun x:S95=>(x.f0,x.f1))
theorem k95_open {w:World} {x:S95} {cs:List Value} (h:k95.K w x cs):cs=[.string x.f0,.int .i64 x.f1]:=by
 obtain⟨_,_,rfl,rfl,rfl⟩:=h;exact rfl
def rd_T95 (xs:List S95) (i:Int):S95:=xs.getD i.toNat z95
theorem at_T95 {w:World} {A:Option Addr} {n:Nat} {xs:List S95} (h:Kd.C k95 w A n xs) (i:Int) (h0:0≤i) (h1:i<n):∃ad , A=some ad∧w.cell? (ad.add (i.toNat*2))=some (.string (rd_T95 xs i).f0)∧w.cell? ⟨(ad.add (i.toNat*2)).block,(ad.add (i.toNat*2)).off+1,none⟩=some (.int .i64 (rd_T95 xs i).f1):=by
 obtain⟨ad,c,e,_,hK,hc0⟩:=Kd.C_get h z95 i h0 h1;have hc:∀j u,c[j]? = some u→w.cell? (ad.add (i.toNat*2+j))=some u:=hc0;obtain rfl:=k95_open hK;exact⟨ad,e,hc 0 _ rfl,by rw[←add_field _ _ 1 (by omega)];exact hc 1 _ rfl⟩
structure S80 where
 f0:Int
 f1:(List Int)
 f2:Int
def z80:S80:=⟨(0:Int),([]:List Int),(0:Int)⟩
def k80:Kd S80:=Kd.iso (Kd.pair (Kd.int .i64) (Kd.pair (Kd.slice 5 (Kd.int .u8)) (Kd.int .i64))) (fun x:S80=>(x.f0,x.f1,x.f2))
theorem k80_heap:Kd.Heap k80:=Kd.heap_iso _ (Kd.heap_pair (Kd.heap_int .i64) (Kd.heap_pair (Kd.heap_slice 5 (Kd.heap_int .u8)) (Kd.heap_int .i64)))
theorem k80_open {w:World} {x:S80} {cs:List Value} (h:k80.K w x cs):∃A1 c1,cs=[.int .i64 x.f0,.slice A1 x.f1.length c1,.int .i64 x.f2]∧x.f1.length≤c1∧(Kd.int .u8).C w A1 x.f1.length x.f1:=by
 obtain⟨_,_,rfl,rfl,⟨_,_,rfl,⟨A1,c1,rfl,l1,g1⟩,rfl⟩⟩:=h;exact⟨A1,c1,rfl,l1,g1⟩
theorem k80_openM {w:World} {base:Nat} {ok:Nat→Prop} {x:S80} {cs:List Value} (h:k80.M w base ok x cs):∃v1,cs=[.int .i64 x.f0,v1,.int .i64 x.f2]∧(Kd.int .u8).R 5 w base ok v1 x.f1:=by
 obtain⟨_,_,rfl,rfl,⟨_,_,rfl,⟨v1,rfl,g1⟩,rfl⟩⟩:=h;exact⟨v1,rfl,g1⟩
theorem k80_mk (w:World) (x:S80) {A1:Option Addr} {c1:Nat} (l1:x.f1.length≤c1) (g1:(Kd.int .u8).C w A1 x.f1.length x.f1):k80.K w x [.int .i64 x.f0,.slice A1 x.f1.length c1,.int .i64 x.f2]:=⟨[.int .i64 x.f0],[.slice A1 x.f1.length c1,.int .i64 x.f2],rfl,rfl,⟨[.slice A1 x.f1.length c1],[.int .i64 x.f2],rfl,⟨A1,c1,rfl,l1,g1⟩,rfl⟩⟩
theorem k80_mkM (w:World) (base:Nat) (ok:Nat→Prop) (x:S80) {v1:Value} (g1:(Kd.int .u8).R 5 w base ok v1 x.f1):k80.M w base ok x [.int .i64 x.f0,v1,.int .i64 x.f2]:=⟨[.int .i64 x.f0],[v1,.int .i64 x.f2],rfl,rfl,⟨[v1],[.int .i64 x.f2],rfl,⟨v1,rfl,g1⟩,rfl⟩⟩
theorem k80_openF {W:World} {ok:Nat→Prop} {x:S80} {cs:List Value} (h:Kd.FK k80 W ok x cs):∃A1 c1,cs=[.int .i64 x.f0,.slice A1 x.f1.length c1,.int .i64 x.f2]∧x.f1.length≤c1∧Kd.F (Kd.int .u8) W ok A1 x.f1.length x.f1:=by
 obtain⟨A1,c1,rfl,l1,_⟩:=k80_open (Kd.FK_now h);exact⟨A1,c1,rfl,l1,(fun W' hW=>by obtain⟨A1_,c1_,he,l1_,g1_⟩:=k80_open (h W' hW);injection (Option.some.inj (show some (Value.slice A1 x.f1.length c1)=some (Value.slice A1_ x.f1.length c1_) from congrArg (fun l=>l[1]?) he)) with ha_ _ _;rw[ha_];exact g1_)⟩
theorem k80_mkF (W:World) (ok:Nat→Prop) (x:S80) {A1:Option Addr} {c1:Nat} (l1:x.f1.length≤c1) (g1:Kd.F (Kd.int .u8) W ok A1 x.f1.length x.f1):Kd.FK k80 W ok x [.int .i64 x.f0,.slice A1 x.f1.length c1,.int .i64 x.f2]:=fun W2 hW=>k80_mk W2 x l1 (g1 W2 hW)
def rd_T80 (xs:List S80) (i:Int):S80:=xs.getD i.toNat z80
theorem at_T80 {w:World} {A:Option Addr} {n:Nat} {xs:List S80} (h:Kd.C k80 w A n xs) (i:Int) (h0:0≤i) (h1:i<n):∃ad A1 c1,A=some ad∧w.cell? (ad.add (i.toNat*3))=some (.int .i64 (rd_T80 xs i).f0)∧w.cell? ⟨(ad.add (i.toNat*3)).block,(ad.add (i.toNat*3)).off+1,none⟩=some (.slice A1 (rd_T80 xs i).f1.length c1)∧w.cell? ⟨(ad.add (i.toNat*3)).block,(ad.add (i.toNat*3)).off+2,none⟩=some (.int .i64 (rd_T80 xs i).f2)∧(rd_T80 xs i).f1.length≤c1∧(Kd.int .u8).C w A1 (rd_T80 xs i).f1.length (rd_T80 xs i).f1:=by
 obtain⟨ad,c,e,_,hK,hc0⟩:=Kd.C_get h z80 i h0 h1;have hc:∀j u,c[j]? = some u→w.cell? (ad.add (i.toNat*3+j))=some u:=hc0;obtain⟨A1,c1,rfl,l1,g1⟩:=k80_open hK;exact⟨ad,A1,c1,e,hc 0 _ rfl,by rw[←add_field _ _ 1 (by omega)];exact hc 1 _ rfl,by rw[←add_field _ _ 2 (by omega)];exact hc 2 _ rfl,l1,g1⟩
structure S63 where
 f0:ByteArray
 f1:Int
def z63:S63:=⟨(⟨#[]⟩:ByteArray),(0:Int)⟩
def k63:Kd S63:=Kd.iso (Kd.pair Kd.string (Kd.int .i64)) (fun x:S63=>(x.f0,x.f1))
theorem k63_heap:Kd.Heap k63:=Kd.heap_iso _ (Kd.heap_pair Kd.heap_string (Kd.heap_int .i64))
theorem k63_open {w:World} {x:S63} {cs:List Value} (h:k63.K w x cs):cs=[.string x.f0,.int .i64 x.f1]:=by
 obtain⟨_,_,rfl,rfl,rfl⟩:=h;exact rfl
theorem k63_openM {w:World} {base:Nat} {ok:Nat→Prop} {x:S63} {cs:List Value} (h:k63.M w base ok x cs):cs=[.string x.f0,.int .i64 x.f1]:=by
 obtain⟨_,_,rfl,rfl,rfl⟩:=h;exact rfl
theorem k63_mkM (w:World) (base:Nat) (ok:Nat→Prop) (x:S63)  : k63.M w base ok x [.string x.f0,.int .i64 x.f1]:=⟨[.string x.f0],[.int .i64 x.f1],rfl,rfl,rfl⟩
def rd_T63 (xs:List S63) (i:Int):S63:=xs.getD i.toNat z63
theorem at_T63 {w:World} {A:Option Addr} {n:Nat} {xs:List S63} (h:Kd.C k63 w A n xs) (i:Int) (h0:0≤i) (h1:i<n):∃ad , A=some ad∧w.cell? (ad.add (i.toNat*2))=some (.string (rd_T63 xs i).f0)∧w.cell? ⟨(ad.add (i.toNat*2)).block,(ad.add (i.toNat*2)).off+1,none⟩=some (.int .i64 (rd_T63 xs i).f1):=by
 obtain⟨ad,c,e,_,hK,hc0⟩:=Kd.C_get h z63 i h0 h1;have hc:∀j u,c[j]? = some u→w.cell? (ad.add (i.toNat*2+j))=some u:=hc0;obtain rfl:=k63_open hK;exact⟨ad,e,hc 0 _ rfl,by rw[←add_field _ _ 1 (by omega)];exact hc 1 _ rfl⟩
def rd_L8 (xs:List (List S80)) (i:Int):(List S80):=xs.getD i.toNat ([]:List S80)
def rd_L9 (xs:List (List S63)) (i:Int):(List S63):=xs.getD i.toNat ([]:List S63)
structure S30 where
 f0:(List S80)
 f1:(List S63)
 f2:(List S63)
 f3:Int
def z30:S30:=⟨([]:List S80),([]:List S63),([]:List S63),(0:Int)⟩
def k30:Kd S30:=Kd.iso (Kd.pair (Kd.slice 80 k80) (Kd.pair (Kd.slice 63 k63) (Kd.pair (Kd.slice 63 k63) (Kd.int .i64)))) (fun x:S30=>(x.f0,x.f1,x.f2,x.f3))
def rd_T30 (xs:List S30) (i:Int):S30:=xs.getD i.toNat z30
def rd_L11 (xs:List (List ByteArray)) (i:Int):(List ByteArray):=xs.getD i.toNat ([]:List ByteArray)
def rd_L12 (xs:List (List S93)) (i:Int):(List S93):=xs.getD i.toNat ([]:List S93)
def rd_L13 (xs:List (List S95)) (i:Int):(List S95):=xs.getD i.toNat ([]:List S95)
structure S25 where
 f0:(List S93)
 f1:(List S95)
 f2:(List S95)
 f3:Int
def z25:S25:=⟨([]:List S93),([]:List S95),([]:List S95),(0:Int)⟩
def k25:Kd S25:=Kd.iso (Kd.pair (Kd.slice 93 k93) (Kd.pair (Kd.slice 95 k95) (Kd.pair (Kd.slice 95 k95) (Kd.int .i64)))) (fun x:S25=>(x.f0,x.f1,x.f2,x.f3))
theorem k25_open {w:World} {x:S25} {cs:List Value} (h:k25.K w x cs):∃A0 c0 A1 c1 A2 c2,cs=[.slice A0 x.f0.length c0,.slice A1 x.f1.length c1,.slice A2 x.f2.length c2,.int .i64 x.f3]∧x.f0.length≤c0∧k93.C w A0 x.f0.length x.f0∧x.f1.length≤c1∧k95.C w A1 x.f1.length x.f1∧x.f2.length≤c2∧k95.C w A2 x.f2.length x.f2:=by
 obtain⟨_,_,rfl,⟨A0,c0,rfl,l0,g0⟩,⟨_,_,rfl,⟨A1,c1,rfl,l1,g1⟩,⟨_,_,rfl,⟨A2,c2,rfl,l2,g2⟩,rfl⟩⟩⟩:=h;exact⟨A0,c0,A1,c1,A2,c2,rfl,l0,g0,l1,g1,l2,g2⟩
def rd_T25 (xs:List S25) (i:Int):S25:=xs.getD i.toNat z25
end Go.Proofs.Ytgpkdbnikcghgaa.MD
