/- Walks and plain laws, put together: no condition of their own. -/
import Derived.Test.YtingkpnoiekliaaGreatVAll
import Derived.Test.YtingkpnoiekliaaGreatProg
import Derived.Below
import Derived.Deep.Draws
import Derived.Deep.AppendLies
import Derived.Maps.AppendAt
import Derived.OwnWalk
import Derived.Laws.BytesArg
import Derived.Laws.MakeOwn
import Derived.Laws.OwnMore
import Derived.Deep.OwnRows
import Derived.Tactics
import Derived.Lib.ConvBytes
import Derived.Laws.Slices
import Derived.WalkKit
import Derived.KernelRfl
import Derived.RowKit3
import Derived.Deep.LoopGhost
import Derived.Deep.QuietTactic
import Derived.BigQuiet
import Derived.WideLaws
import Derived.Deep.DeepCutAuto
import Derived.Deep.CutBlock
import Derived.Deep.RegionHeld3
import Derived.Laws.Rows
import Derived.Lib.AppendStr
import Derived.ArgAppend
import Derived.Laws.IdiomCopy
import Derived.OrdersHeld
import Derived.Laws.BitsLemmas
import Derived.RowKit
import Derived.Laws.CopyRow
section
namespace Go.Proofs.YtingkpnoiekliaaGreat.MZ
open Go.RowKit Go.Proofs.YtingkpnoiekliaaGreatW.PrintWords Go.Proofs.YtingkpnoiekliaaGreatW.PrintLast Go.Proofs.YtingkpnoiekliaaGreatW.PrintMore Go.Proofs.YtingkpnoiekliaaGreat.MWords
attribute [local go_sem] max2_int min2_int max_two min_two max_three min_three max_four min_four
set_option linter.unusedVariables false
set_option linter.unusedSimpArgs false
def apT:Option Int→Value
 |none=>.nilIface
 |some c=>.iface 0 (.int .i64 c)
theorem sr:(Tryz.prog.info? 5).map (fun i=>(i.zero,i.size,i.bytes))=some (some (.int .u8 0),1,1):=by kernel_rfl
theorem YM:(Tryz.prog.info? 22).map (fun i=>(i.zero,i.size,i.bytes))=some (some (.slice none 0 0),1,24):=by kernel_rfl
theorem wY:(Tryz.prog.info? 63).map (fun i=>(i.zero,i.size,i.bytes))=some (some (.agg #[(.int .i64 0),(.slice none 0 0),(.int .i64 0)]),3,40):=by kernel_rfl
theorem iV:(Tryz.prog.info? 89).map (fun i=>(i.zero,i.size,i.bytes))=some (some (.agg #[(.string ⟨#[]⟩),(.int .i64 0)]),2,24):=by kernel_rfl
structure aa where
 f0:ByteArray
 f1:Int
def kL:aa:=⟨(⟨#[]⟩:ByteArray),(0:Int)⟩
def an:Kd aa:=Kd.tm (Kd.pair Kd.string (Kd.int .i64)) (fun x:aa=>(x.f0,x.f1))
theorem YV:Kd.Heap an:=Kd.W8 _ (Kd.P8 Kd.aiM (Kd.J9 .i64))
theorem alG {w:World} {x:aa} {cs:List Value} (h:an.K w x cs):cs=[.string x.f0,.int .i64 x.f1]:=by
 obtain⟨_,_,rfl,rfl,rfl⟩:=h;exact rfl
theorem zr {w:World} {base:Nat} {ok:Nat→Prop} {x:aa} {cs:List Value} (h:an.M w base ok x cs):cs=[.string x.f0,.int .i64 x.f1]:=by
 obtain⟨_,_,rfl,rfl,rfl⟩:=h;exact rfl
theorem nn (w:World) (base:Nat) (ok:Nat→Prop) (x:aa)  : an.M w base ok x [.string x.f0,.int .i64 x.f1]:=⟨[.string x.f0],[.int .i64 x.f1],rfl,rfl,rfl⟩
def aG (xs:List aa) (i:Int):aa:=xs.getD i.toNat kL
theorem gi {w:World} {A:Option Addr} {n:Nat} {xs:List aa} (h:Kd.C an w A n xs) (i:Int) (h0:0≤i) (h1:i<n):∃ad , A=some ad∧w.cell? (ad.add (i.toNat*2))=some (.string (aG xs i).f0)∧w.cell? ⟨(ad.add (i.toNat*2)).block,(ad.add (i.toNat*2)).off+1,none⟩=some (.int .i64 (aG xs i).f1):=by
 obtain⟨ad,c,e,_,hK,bz⟩:=Kd.vy h kL i h0 h1;have hc:∀j u,c[j]? = some u→w.cell? (ad.add (i.toNat*2+j))=some u:=bz;obtain rfl:=alG hK;exact⟨ad,e,hc 0 _ rfl,by rw[←qF _ _ 1 (by omega)];exact hc 1 _ rfl⟩
def ja (xs:List (List Int)) (i:Int):(List Int):=xs.getD i.toNat ([]:List Int)
theorem BG {w:World} {A:Option Addr} {n:Nat} {xs:List (List Int)} (h:Kd.C (Kd.slice 5 (Kd.int .u8)) w A n xs) (i:Int) (h0:0≤i) (h1:i<n):∃ad A0 c0,A=some ad∧w.cell? (ad.add i.toNat)=some (.slice A0 (ja xs i).length c0)∧(ja xs i).length≤c0∧(Kd.int .u8).C w A0 (ja xs i).length (ja xs i):=by
 obtain⟨ad,c,e,_,hK,bz⟩:=Kd.vy h ([]:List Int) i h0 h1;have hc:∀j u,c[j]? = some u→w.cell? (ad.add (i.toNat*1+j))=some u:=bz;obtain⟨A0,c0,rfl,U,g0⟩:=hK;exact⟨ad,A0,c0,e,by have hq:=hc 0 _ rfl;rwa [Nat.mul_one,Nat.add_zero]at hq,U,g0⟩
structure al where
 f0:Int
 f1:(List Int)
 f2:Int
def gV:al:=⟨(0:Int),([]:List Int),(0:Int)⟩
def bc:Kd al:=Kd.tm (Kd.pair (Kd.int .i64) (Kd.pair (Kd.slice 5 (Kd.int .u8)) (Kd.int .i64))) (fun x:al=>(x.f0,x.f1,x.f2))
theorem alE:Kd.Heap bc:=Kd.W8 _ (Kd.P8 (Kd.J9 .i64) (Kd.P8 (Kd.aiL 5 (Kd.J9 .u8)) (Kd.J9 .i64)))
theorem Q0 {w:World} {x:al} {cs:List Value} (h:bc.K w x cs):∃A1 c1,cs=[.int .i64 x.f0,.slice A1 x.f1.length c1,.int .i64 x.f2]∧x.f1.length≤c1∧(Kd.int .u8).C w A1 x.f1.length x.f1:=by
 obtain⟨_,_,rfl,rfl,⟨_,_,rfl,⟨A1,c1,rfl,l1,g1⟩,rfl⟩⟩:=h;exact⟨A1,c1,rfl,l1,g1⟩
theorem sw {w:World} {base:Nat} {ok:Nat→Prop} {x:al} {cs:List Value} (h:bc.M w base ok x cs):∃v1,cs=[.int .i64 x.f0,v1,.int .i64 x.f2]∧(Kd.int .u8).R 5 w base ok v1 x.f1:=by
 obtain⟨_,_,rfl,rfl,⟨_,_,rfl,⟨v1,rfl,g1⟩,rfl⟩⟩:=h;exact⟨v1,rfl,g1⟩
theorem qb (w:World) (base:Nat) (ok:Nat→Prop) (x:al) {v1:Value} (g1:(Kd.int .u8).R 5 w base ok v1 x.f1):bc.M w base ok x [.int .i64 x.f0,v1,.int .i64 x.f2]:=⟨[.int .i64 x.f0],[v1,.int .i64 x.f2],rfl,rfl,⟨[v1],[.int .i64 x.f2],rfl,⟨v1,rfl,g1⟩,rfl⟩⟩
theorem alF {W:World} {ok:Nat→Prop} {x:al} {cs:List Value} (h:Kd.FK bc W ok x cs):∃A1 c1,cs=[.int .i64 x.f0,.slice A1 x.f1.length c1,.int .i64 x.f2]∧x.f1.length≤c1∧Kd.F (Kd.int .u8) W ok A1 x.f1.length x.f1:=by
 obtain⟨A1,c1,rfl,l1,_⟩:=Q0 (Kd.Iy h);exact⟨A1,c1,rfl,l1,(fun W' hW=>by obtain⟨A1_,c1_,he,l1_,r7⟩:=Q0 (h W' hW);injection (Option.some.inj (show some (Value.slice A1 x.f1.length c1)=some (Value.slice A1_ x.f1.length c1_) from congrArg (fun l=>l[1]?) he)) with ha_ _ _;rw[ha_];exact r7)⟩
def ai (xs:List al) (i:Int):al:=xs.getD i.toNat gV
theorem hY {w:World} {A:Option Addr} {n:Nat} {xs:List al} (h:Kd.C bc w A n xs) (i:Int) (h0:0≤i) (h1:i<n):∃ad A1 c1,A=some ad∧w.cell? (ad.add (i.toNat*3))=some (.int .i64 (ai xs i).f0)∧w.cell? ⟨(ad.add (i.toNat*3)).block,(ad.add (i.toNat*3)).off+1,none⟩=some (.slice A1 (ai xs i).f1.length c1)∧w.cell? ⟨(ad.add (i.toNat*3)).block,(ad.add (i.toNat*3)).off+2,none⟩=some (.int .i64 (ai xs i).f2)∧(ai xs i).f1.length≤c1∧(Kd.int .u8).C w A1 (ai xs i).f1.length (ai xs i).f1:=by
 obtain⟨ad,c,e,_,hK,bz⟩:=Kd.vy h gV i h0 h1;have hc:∀j u,c[j]? = some u→w.cell? (ad.add (i.toNat*3+j))=some u:=bz;obtain⟨A1,c1,rfl,l1,g1⟩:=Q0 hK;exact⟨ad,A1,c1,e,hc 0 _ rfl,by rw[←qF _ _ 1 (by omega)];exact hc 1 _ rfl,by rw[←qF _ _ 2 (by omega)];exact hc 2 _ rfl,l1,g1⟩
def ax3 (xs:List (List al)) (i:Int):(List al):=xs.getD i.toNat ([]:List al)
def ax4 (xs:List (List aa)) (i:Int):(List aa):=xs.getD i.toNat ([]:List aa)
structure ik where
 f0:(List al)
 f1:(List aa)
 f2:(List aa)
 f3:Int
def z27:ik:=⟨([]:List al),([]:List aa),([]:List aa),(0:Int)⟩
def Hv:Kd ik:=Kd.tm (Kd.pair (Kd.slice 63 bc) (Kd.pair (Kd.slice 89 an) (Kd.pair (Kd.slice 89 an) (Kd.int .i64)))) (fun x:ik=>(x.f0,x.f1,x.f2,x.f3))
theorem alD {w:World} {x:ik} {cs:List Value} (h:Hv.K w x cs):∃A0 c0 A1 c1 A2 c2,cs=[.slice A0 x.f0.length c0,.slice A1 x.f1.length c1,.slice A2 x.f2.length c2,.int .i64 x.f3]∧x.f0.length≤c0∧bc.C w A0 x.f0.length x.f0∧x.f1.length≤c1∧an.C w A1 x.f1.length x.f1∧x.f2.length≤c2∧an.C w A2 x.f2.length x.f2:=by
 obtain⟨_,_,rfl,⟨A0,c0,rfl,U,g0⟩,⟨_,_,rfl,⟨A1,c1,rfl,l1,g1⟩,⟨_,_,rfl,⟨A2,c2,rfl,l2,g2⟩,rfl⟩⟩⟩:=h;exact⟨A0,c0,A1,c1,A2,c2,rfl,U,g0,l1,g1,l2,g2⟩
theorem uL (w:World) (x:ik) {A0:Option Addr} {c0:Nat} (U:x.f0.length≤c0) (g0:bc.C w A0 x.f0.length x.f0) {A1:Option Addr} {c1:Nat} (l1:x.f1.length≤c1) (g1:an.C w A1 x.f1.length x.f1) {A2:Option Addr} {c2:Nat} (l2:x.f2.length≤c2) (g2:an.C w A2 x.f2.length x.f2):Hv.K w x [.slice A0 x.f0.length c0,.slice A1 x.f1.length c1,.slice A2 x.f2.length c2,.int .i64 x.f3]:=⟨[.slice A0 x.f0.length c0],[.slice A1 x.f1.length c1,.slice A2 x.f2.length c2,.int .i64 x.f3],rfl,⟨A0,c0,rfl,U,g0⟩,⟨[.slice A1 x.f1.length c1],[.slice A2 x.f2.length c2,.int .i64 x.f3],rfl,⟨A1,c1,rfl,l1,g1⟩,⟨[.slice A2 x.f2.length c2],[.int .i64 x.f3],rfl,⟨A2,c2,rfl,l2,g2⟩,rfl⟩⟩⟩
def ax6 (xs:List ik) (i:Int):ik:=xs.getD i.toNat z27
def ax5 (xs:List (List ByteArray)) (i:Int):(List ByteArray):=xs.getD i.toNat ([]:List ByteArray)
structure jh where
 f0:Int
 f1:(List Int)
 f2:Int
def tJ:jh:=⟨(0:Int),([]:List Int),(0:Int)⟩
def xa:Kd jh:=Kd.tm (Kd.pair (Kd.int .i64) (Kd.pair (Kd.slice 5 (Kd.int .u8)) (Kd.int .i64))) (fun x:jh=>(x.f0,x.f1,x.f2))
theorem alB {w:World} {x:jh} {cs:List Value} (h:xa.K w x cs):∃A1 c1,cs=[.int .i64 x.f0,.slice A1 x.f1.length c1,.int .i64 x.f2]∧x.f1.length≤c1∧(Kd.int .u8).C w A1 x.f1.length x.f1:=by
 obtain⟨_,_,rfl,rfl,⟨_,_,rfl,⟨A1,c1,rfl,l1,g1⟩,rfl⟩⟩:=h;exact⟨A1,c1,rfl,l1,g1⟩
def gS (xs:List jh) (i:Int):jh:=xs.getD i.toNat tJ
theorem NZ {w:World} {A:Option Addr} {n:Nat} {xs:List jh} (h:Kd.C xa w A n xs) (i:Int) (h0:0≤i) (h1:i<n):∃ad A1 c1,A=some ad∧w.cell? (ad.add (i.toNat*3))=some (.int .i64 (gS xs i).f0)∧w.cell? ⟨(ad.add (i.toNat*3)).block,(ad.add (i.toNat*3)).off+1,none⟩=some (.slice A1 (gS xs i).f1.length c1)∧w.cell? ⟨(ad.add (i.toNat*3)).block,(ad.add (i.toNat*3)).off+2,none⟩=some (.int .i64 (gS xs i).f2)∧(gS xs i).f1.length≤c1∧(Kd.int .u8).C w A1 (gS xs i).f1.length (gS xs i).f1:=by
 obtain⟨ad,c,e,_,hK,bz⟩:=Kd.vy h tJ i h0 h1;have hc:∀j u,c[j]? = some u→w.cell? (ad.add (i.toNat*3+j))=some u:=bz;obtain⟨A1,c1,rfl,l1,g1⟩:=alB hK;exact⟨ad,A1,c1,e,hc 0 _ rfl,by rw[←qF _ _ 1 (by omega)];exact hc 1 _ rfl,by rw[←qF _ _ 2 (by omega)];exact hc 2 _ rfl,l1,g1⟩
structure hU where
 f0:ByteArray
 f1:Int
def z105:hU:=⟨(⟨#[]⟩:ByteArray),(0:Int)⟩
def sv:Kd hU:=Kd.tm (Kd.pair Kd.string (Kd.int .i64)) (fun x:hU=>(x.f0,x.f1))
theorem alC {w:World} {x:hU} {cs:List Value} (h:sv.K w x cs):cs=[.string x.f0,.int .i64 x.f1]:=by
 obtain⟨_,_,rfl,rfl,rfl⟩:=h;exact rfl
def ld (xs:List hU) (i:Int):hU:=xs.getD i.toNat z105
theorem N0 {w:World} {A:Option Addr} {n:Nat} {xs:List hU} (h:Kd.C sv w A n xs) (i:Int) (h0:0≤i) (h1:i<n):∃ad , A=some ad∧w.cell? (ad.add (i.toNat*2))=some (.string (ld xs i).f0)∧w.cell? ⟨(ad.add (i.toNat*2)).block,(ad.add (i.toNat*2)).off+1,none⟩=some (.int .i64 (ld xs i).f1):=by
 obtain⟨ad,c,e,_,hK,bz⟩:=Kd.vy h z105 i h0 h1;have hc:∀j u,c[j]? = some u→w.cell? (ad.add (i.toNat*2+j))=some u:=bz;obtain rfl:=alC hK;exact⟨ad,e,hc 0 _ rfl,by rw[←qF _ _ 1 (by omega)];exact hc 1 _ rfl⟩
def ax2 (xs:List (List (List Int))) (i:Int):(List (List Int)):=xs.getD i.toNat ([]:List (List Int))
namespace Mz
def Z (e:Nat) (w:World) (base:Nat) (ok:Nat→Prop) (v:Value) (xs:List Int):Prop:=
 (∀k,v.ownBlock=some k→ok k)∧xs.length≤9223372036854775807∧((v = .slice none 0 0∧xs=[])∨∃(g cap:Nat) (cells:Array Value) (pr:Nat × Nat),v = .slice (some ⟨g,0,none⟩) xs.length cap∧xs.length≤cap∧base≤g∧w.heap[g]? = some (.cells cells e pr)∧(cells.size≤pr.1∨pr.2=0)∧∀i,i<xs.length→cells[i]? = some (.int .u8 (xs.getD i 0)))
section
variable {e:Nat} {w w1 W W2:World} {base g n cap:Nat} {ok ok':Nat→Prop} {u v:Value} {xs:List Int} {S:Nat→Prop}
theorem NR (e:Nat) (w:World) (base:Nat) (ok:Nat→Prop):Z e w base ok (.slice none 0 0) []:=⟨fun k hk=>by simp[Value.ownBlock]at hk,by simp,.inl ⟨rfl,rfl⟩⟩
theorem D9 (h:Z e w base ok v xs) (hok:∀k,ok k→ok' k):Z e w base ok' v xs:=⟨fun k hk=>hok k (h.1 k hk),h.2⟩
theorem D8 {base':Nat} (h:Z e w base ok v xs) (hb:base'≤base):Z e w base' ok v xs:=by
 obtain⟨h0,hl,h1|⟨g,cap,cells,pr,a,b,c,r⟩⟩:=h
 ·exact⟨h0,hl,.inl h1⟩
 ·exact⟨h0,hl,.inr ⟨g,cap,cells,pr,a,b,Nat.le_trans hb c,r⟩⟩
theorem aej (h:Z e w base ok v xs) (hm:∀k,v.ownBlock=some k→w1.heap[k]? = w.heap[k]?):Z e w1 base ok v xs:=by
 obtain⟨h0,hl,h1|⟨g,cap,cells,pr,a,b,c,d,r⟩⟩:=h
 ·exact⟨h0,hl,.inl h1⟩
 ·exact⟨h0,hl,.inr ⟨g,cap,cells,pr,a,b,c,(hm g (by rw[a];rfl)).trans d,r⟩⟩
theorem aei (h:Z e w base ok v xs):∀k,v.ownBlock=some k→k<w.heap.size:=by
 intro k hk;obtain⟨h0,hl,⟨rfl,_⟩|⟨g,cap,cells,pr,rfl,b,c,d,r⟩⟩:=h
 ·simp[Value.ownBlock]at hk
 ·have:g=k:=by simpa[Value.ownBlock] using hk
  subst this;exact eF d
theorem NQ (h:Z e w base ok v xs):∀k,v.ownBlock=some k→base≤k:=by
 intro k hk;obtain⟨h0,hl,⟨rfl,_⟩|⟨g,cap,cells,pr,rfl,b,c,d,r⟩⟩:=h
 ·simp[Value.ownBlock]at hk
 ·have:g=k:=by simpa[Value.ownBlock] using hk
  subst this;exact c
theorem BD (h:Z e w base ok v xs):∃A c,v = .slice A xs.length c:=by
 obtain⟨_,_,⟨rfl,rfl⟩|⟨g,cap,cells,pr,rfl,_⟩⟩:=h
 ·exact⟨none,0,rfl⟩
 ·exact⟨_,_,rfl⟩
theorem I5 {A:Option Addr} {n c:Nat} (h:Z e w base ok (.slice A n c) xs):n=xs.length∧n≤c∧Kd.C (Kd.int .u8) w A xs.length xs:=by
 obtain⟨_,hl,⟨h1,rfl⟩|⟨g,cap,cells,pr,h1,b,c_,d,_,r⟩⟩:=h
 ·injection h1 with e1 e2 e3
  subst e1 e2 e3;exact⟨rfl,Nat.le_refl _,Kd.Mm _ _⟩
 ·injection h1 with e1 e2 e3
  subst e1 e2 e3;refine⟨rfl,b,rfl,hl,fun _=>⟨_,rfl,fun j p hj=>⟨[.int .u8 p],rfl,rfl,fun i q hq=>?_⟩⟩⟩;obtain⟨hjl,hjp⟩:=List.getElem?_eq_some_iff.1 hj;cases i with
  |succ i=>simp at hq
  |zero=>
   have hq:Value.int .u8 p=q:=by simpa using hq
   subst hq;have hc:=r j hjl;rw[List.getD_eq_getElem?_getD,hj]at hc;show w.cell? ((⟨g,0,none⟩:Addr).add (j*1+0))=_;rw[NY,Nat.zero_add,Nat.mul_one,Nat.add_zero];unfold World.cell?;dsimp only;rw[d];exact hc
theorem aem (_hE:(Kd.int .u8).E=[]) (h:Z e w base ok v xs):Z e w base (fun k=>some k=v.ownBlock) v xs:=⟨fun _ hk=>hk.symm,h.2⟩
theorem ael (_hE:(Kd.int .u8).E=[]) (h:Z e w base ok' v xs) (hok:∀k,v.ownBlock=some k→ok k):Z e w base ok v xs:=⟨hok,h.2⟩
theorem aeh (h:Z e w base ok v xs) (hp:0<xs.length):∃g cap,v = .slice (some ⟨g,0,none⟩) xs.length cap∧base≤g∧g<w.heap.size∧∃(cells:Array Value),∃pr,w.heap[g]? = some (.cells cells e pr):=by
 obtain⟨_,_,⟨rfl,rfl⟩|⟨g,cap,cells,pr,rfl,b,c,d,_⟩⟩:=h
 ·simp at hp
 ·exact⟨g,cap,rfl,c,eF d,cells,pr,d⟩
theorem aeg (z:Int) (h:Z e W base ok (.slice (some ⟨g,0,none⟩) n cap) xs) (i:Int) (h0:0≤i) (hi:i<n):W.cell? ⟨g,i.toNat,none⟩=some (.int .u8 (jo z xs i))∧W.frozen? ⟨g,i.toNat,none⟩=false:=by
 obtain⟨_,_,⟨h1,_⟩|⟨g',cap',cells,pr,h1,b,c,d,f,r⟩⟩:=h
 ·simp at h1
 ·injection h1 with e1 e2 e3
  have e1:g=g':=by simpa using e1
  subst e1 e2 e3;have hc:=r i.toNat (by omega);have hlt:i.toNat<cells.size:=(Array.getElem?_eq_some_iff.1 hc).1;refine⟨?_,?_⟩
  ·unfold World.cell?;dsimp only;rw[d];show cells[i.toNat]? = _;rw[hc,List.getD_eq_getElem?_getD,List.getElem?_eq_getElem (show i.toNat<xs.length by omega)];unfold jo;rw[List.getD_eq_getElem?_getD,List.getElem?_eq_getElem (show i.toNat<xs.length by omega)];rfl
  ·unfold World.frozen?;dsimp only;rw[d];obtain⟨lo,hi'⟩:=pr;dsimp only
   rcases f with f|f
   ·have:¬lo≤i.toNat:=by simp only at f;omega
    simp[this]
   ·have:¬i.toNat<hi':=by simp only at f;omega
    simp[this]
theorem aek (h:Z e W base ok (.slice (some ⟨g,0,none⟩) n cap) xs) (i:Int) (x:Int):Z e (W.setCell ⟨g,i.toNat,none⟩ (.int .u8 x)) base ok (.slice (some ⟨g,0,none⟩) n cap) (xs.set i.toNat x)∧W.grownBy (W.setCell ⟨g,i.toNat,none⟩ (.int .u8 x)) (some g):=by
 refine⟨?_,⟨rfl,rfl,rfl,by simp[World.setCell],fun k hk hne=>?_⟩⟩
 ·obtain⟨h0,hl,⟨h1,_⟩|⟨g',cap',cells,pr,h1,b,c,d,f,r⟩⟩:=h
  ·simp at h1
  ·injection h1 with e1 e2 e3
   have e1:g=g':=by simpa using e1
   subst e1 e2 e3;refine⟨h0,by rw[List.length_set];exact hl,.inr ⟨g,cap,cells.setIfInBounds i.toNat (.int .u8 x),pr,by rw[List.length_set],by rw[List.length_set];exact b,c,?_,by rw[Array.size_setIfInBounds];exact f,fun j hj=>?_⟩⟩
   ·unfold World.setCell;dsimp only;rw[Array.getElem?_modify,if_pos rfl,d];rfl
   ·rw[List.length_set]at hj;have hc:=r j hj;have hlt:j<cells.size:=(Array.getElem?_eq_some_iff.1 hc).1;rw[Array.getElem?_setIfInBounds,List.getD_eq_getElem?_getD,List.getElem?_set];by_cases hji:i.toNat=j
    ·rw[if_pos hji,if_pos (by omega),if_pos hji,if_pos (by omega)];rfl
    ·rw[if_neg hji,if_neg hji,hc,List.getD_eq_getElem?_getD]
 ·unfold World.setCell;dsimp only;rw[Array.getElem?_modify,if_neg (fun e_=>hne (by rw[e_]))]
end
end Mz
namespace Mz
section
variable {e e':Nat} {w w1 W:World} {base:Nat} {ok ok':Nat→Prop} {u v:Value} {xs:List Int}
theorem Va (h:Z e w base ok v xs):Z e w base (fun k=>ok k∧base≤k∧k<w.heap.size∧∃q,q ∈ [e]∧∃cells:Array Value × (Nat × Nat),w.heap[k]? = some (.cells cells.1 q cells.2)) v xs:=by
 refine⟨fun k hk=>⟨h.1 k hk,NQ h k hk,aei h k hk,e,List.mem_cons_self,?_⟩,h.2⟩;obtain⟨h0,hl,⟨rfl,_⟩|⟨g,cap,cells,pr,rfl,b,c,d,r⟩⟩:=h
 ·simp[Value.ownBlock]at hk
 ·have:g=k:=by simpa[Value.ownBlock] using hk
  subst this;exact⟨(cells,pr),d⟩
theorem U9 (h:Z e W base ok u xs) (hty:∀k,v.ownBlock=some k→∃cells:Array Value × (Nat × Nat),W.heap[k]? = some (.cells cells.1 e' cells.2)) (ht:∀q,q ∈ e::(Kd.int .u8).E→q≠e'):Z e W base (fun k=>ok k∧some k≠v.ownBlock) u xs:=by
 refine⟨fun k hk=>⟨h.1 k hk,fun he=>?_⟩,h.2⟩;obtain⟨c1,h1⟩:=hty k he.symm;obtain⟨_,_,_,q,hq,c2,h2⟩:=(Va h).1 k hk;rw[List.mem_singleton.1 hq,h1]at h2;injection h2 with h2
 injection h2 with _ h2
 exact ht e List.mem_cons_self h2.symm
end
def kz (e:Nat):Kd (List Int) where
 sz:=1
 E:=[e]
 K:=fun w xs cs=>∃A c,cs=[.slice A xs.length c]∧xs.length≤c∧Kd.C (Kd.int .u8) w A xs.length xs
 M:=fun w base ok xs cs=>∃v,cs=[v]∧Z e w base ok v xs
 K_len:=by
  rintro w x cs ⟨A,c,rfl,_⟩;rfl
 K_one:=by
  rintro w x cs ⟨A,c,rfl,_⟩ u hu;rw[List.mem_singleton.1 hu];rfl
 K_below:=by
  rintro w w1 x cs hb ⟨A,c,rfl,hl,hr⟩;exact⟨A,c,rfl,hl,Kd.aw hr hb⟩
 K_of_M:=by
  rintro w base ok x cs ⟨v,rfl,h⟩;obtain⟨A,c,rfl⟩:=BD h;exact⟨A,c,rfl,(I5 h).2.1,(I5 h).2.2⟩
 M_mono:=by
  rintro w base ok ok' x cs hok ⟨v,rfl,h⟩;exact⟨v,rfl,D9 h hok⟩
 M_bound:=by
  rintro w base ok x cs ⟨v,rfl,h⟩;exact⟨v,rfl,Va h⟩
 M_move:=by
  rintro w w1 base ok x cs hm ⟨v,rfl,h⟩;exact⟨v,rfl,aej h (fun k hk=>hm k (h.1 k hk))⟩
 M_lower:=by
  rintro w base base' ok x cs hb ⟨v,rfl,h⟩;exact⟨v,rfl,D8 h hb⟩
theorem Ng {e base:Nat} {w:World} {ok:Nat→Prop} {v:Value} {xs:List Int} (h:Z e w base ok v xs):(kz e).M w base ok xs [v]:=⟨v,rfl,h⟩
theorem IZ {e n:Nat} {w:World} {A:Option Addr} {xs:List (List Int)} (h:Kd.C (kz e) w A n xs):Kd.C (Kd.slice e (Kd.int .u8)) w A n xs:=h
end Mz
namespace Mz
theorem I2 {α:Type} {d:Kd α} {e:Nat} {w:World} {base:Nat} {ok:Nat→Prop} {v:Value} {xs:List α} (h:Kd.S d e w base ok v xs):∀k,v.ownBlock=some k→∃cz,w.heap[k]? = some (.cells cz e (0,0)):=by
 obtain⟨inner,ho⟩:=Kd.D1 (Kd.qD h);exact fun k hk=>Zs ho k hk
end Mz
end Go.Proofs.YtingkpnoiekliaaGreat.MZ
end
section
namespace Go.Proofs.YtingkpnoiekliaaGreat.MZ
open Go.RowKit Go.Proofs.YtingkpnoiekliaaGreatW.PrintWords Go.Proofs.YtingkpnoiekliaaGreatW.PrintLast Go.Proofs.YtingkpnoiekliaaGreatW.PrintMore Go.Proofs.YtingkpnoiekliaaGreat.MWords
set_option linter.unusedVariables false
set_option linter.unusedSimpArgs false
abbrev Dk:=ik
def cO (cs:Array Value) (d:Dk) (w:World):Prop:=Hv.K w d cs.toList
theorem cO.open {cs:Array Value} {d:Dk} {w:World} (h:cO cs d w):∃A0 c0 A1 c1 A2 c2,cs=#[.slice A0 d.f0.length c0,.slice A1 d.f1.length c1,.slice A2 d.f2.length c2,.int .i64 d.f3]∧d.f0.length≤c0∧bc.C w A0 d.f0.length d.f0∧d.f1.length≤c1∧an.C w A1 d.f1.length d.f1∧d.f2.length≤c2∧an.C w A2 d.f2.length d.f2:=by
 obtain⟨A0,c0,A1,c1,A2,c2,e,r⟩:=alD h;exact⟨A0,c0,A1,c1,A2,c2,Array.ext' e,r⟩
theorem cO.size {cs:Array Value} {d:Dk} {w:World} (h:cO cs d w):cs.size=4:=by
 obtain⟨_,_,_,_,_,_,rfl,_⟩:=h.open;rfl
theorem cO.one {cs:Array Value} {d:Dk} {w:World} (h:cO cs d w):∀u ∈ cs.toList,u.oneCell'=true:=Hv.K_one h
def Rs (w w':World) (cs:Array Value) (d:Dk):Prop:=Foot (cO cs d) w' (fun k=>w.heap.size≤k)∧Below w.heap.size w w'
def Fr (b:Nat) (ok:Nat→Prop) (cs:Array Value) (d:Dk) (W:World):Prop:=∃v0 v1 v2,cs=#[v0,v1,v2,.int .i64 d.f3]∧Kd.N bc 63 W b (fun k=>ok k∧some k≠v1.ownBlock∧some k≠v2.ownBlock) v0 d.f0∧Kd.R an 89 W b (fun k=>ok k∧some k≠v2.ownBlock) v1 d.f1∧Kd.R an 89 W b (fun k=>ok k∧some k≠v1.ownBlock) v2 d.f2
abbrev Fd (b:Nat) (cs:Array Value) (d:Dk) (W:World):Prop:=Fr b (fun k=>b≤k) cs d W
section
variable {b b':Nat} {ok ok':Nat→Prop} {cs:Array Value} {d:Dk} {w w' W:World}
theorem Fr.cm (h:Fr b ok cs d W):cO cs d W:=by
 obtain⟨v0,v1,v2,rfl,h0,h1,h2⟩:=h;obtain⟨A0,c0,rfl⟩:=Kd.yp h0;obtain⟨A1,c1,rfl,e1,g1⟩:=Kd.oY h1;obtain⟨A2,c2,rfl,e2,g2⟩:=Kd.oY h2;have e0:=Kd.pT h0;exact uL W d e0.2.1 e0.2.2 e1 g1 e2 g2
theorem Fr.size (h:Fr b ok cs d W):cs.size=4:=h.cm.size
theorem Fr.mono (h:Fr b ok cs d W) (hb:b'≤b) (hk:∀k,ok k→ok' k):Fr b' ok' cs d W:=by
 obtain⟨v0,v1,v2,e,h0,h1,h2⟩:=h;exact⟨v0,v1,v2,e,Kd.Bt (Kd.ke h0 (fun k h=>⟨hk k h.1,h.2⟩)) hb,Kd.cg (Kd.aK h1 (fun k h=>⟨hk k h.1,h.2⟩)) hb,Kd.cg (Kd.aK h2 (fun k h=>⟨hk k h.1,h.2⟩)) hb⟩
theorem Fr.low (h:Fd b cs d W) (hb:b'≤b):Fd b' cs d W:=Fr.mono h hb (fun k hk=>Nat.le_trans hb hk)
theorem Fr.nc (h:Fr b ok cs d W):Foot (Fr b ok cs d) W ok:=fun W' hW=>by
 obtain⟨v0,v1,v2,e,h0,h1,h2⟩:=h;exact⟨v0,v1,v2,e,Kd.Bu h0 (fun k hk=>hW k hk.1),Kd.nI h1 (fun k hk=>hW k hk.1),Kd.nI h2 (fun k hk=>hW k hk.1)⟩
def Rf (w w':World) (cs:Array Value) (d:Dk):Prop:=Foot (Fd w.heap.size cs d) w' (fun k=>w.heap.size≤k)∧Below w.heap.size w w'
theorem V2 {p0 p1 p2:Nat→Prop} {v0 v1 v2:Value} {U:List al} {l1 l2:List aa} {n:Int} (h0:Kd.S bc 63 W b p0 v0 U) (h1:Kd.R an 89 W b p1 v1 l1) (h2:Kd.R an 89 W b p2 v2 l2) (q1:∀k,p1 k→some k≠v2.ownBlock:=by exact fun _ h=>h) (q2:∀k,p2 k→some k≠v1.ownBlock:=by exact fun _ h=>h):Fd b #[v0,v1,v2,.int .i64 n] ⟨U,l1,l2,n⟩ W:=
 ⟨v0,v1,v2,rfl,Kd.By (Kd.dj (Kd.kS (Kd.o4 (Kd.o4 h0 (Kd.fb h1) (by decide)) (Kd.fb h2) (by decide))) (fun k h=>⟨h.2.1,h.1.1.2,h.1.2⟩)),Kd.aK (Kd.iR h1) (fun k h=>⟨h.2.1,q1 k h.1⟩),Kd.aK (Kd.iR h2) (fun k h=>⟨h.2.1,q2 k h.1⟩)⟩
theorem Fr.rf (h:Fd w.heap.size cs d w') (hb:Below w.heap.size w w'):Rf w w' cs d:=⟨Fr.nc h,hb⟩
theorem Rf.rs (h:Rf w w' cs d):Rs w w' cs d:=⟨h.1.imp (fun _ h=>h.cm),h.2⟩
end
structure St (w0:World) (X:Nat→Prop) (bs:List (Nat × Array Value)) (Q:World→Prop) (w:World):Prop where
 be:Below w0.heap.size w0 w
 ft:Foot Q w (fun k=>¬X k∧∀b ∈ bs,b.1≠k)
 bx:∀b ∈ bs,w0.heap.size≤b.1∧b.2.size=4∧w.heap[b.1]? = some (.cells b.2 27 (0,0))
 nd:bs.Pairwise (fun a b=>a.1≠b.1)
section
variable {w0 w w1:World} {X:Nat→Prop} {bs:List (Nat × Array Value)} {Q Q':World→Prop} {g:Nat} {cs cs':Array Value}
theorem St.q (h:St w0 X bs Q w):Q w:=h.ft.now
theorem St.below (h:St w0 X bs Q w) (hb:Below w.heap.size w w1):St w0 X bs Q w1:=
 ⟨ar h.be hb,h.ft.step (fun k _ hk=>hb.block k hk),fun b hm=>⟨(h.bx b hm).1,(h.bx b hm).2.1,bg (h.bx b hm).2.2 hb⟩,h.nd⟩
theorem St.k7 (h:St w0 X bs Q w) (hb:Below w0.heap.size w0 w1) (hk:kd w w1 g none) (hx:X g) (hn:∀b ∈ bs,b.1≠g):St w0 X bs Q w1:=
 ⟨hb,h.ft.step (fun k ho hl=>hk.2 k hl (fun e=>ho.1 (e▸hx)) (by simp)),fun b hm=>⟨(h.bx b hm).1,(h.bx b hm).2.1,by rw[hk.2 _ (eF (h.bx b hm).2.2) (hn b hm) (by simp)];exact(h.bx b hm).2.2⟩,h.nd⟩
theorem St.drew (h:St w0 X bs Q w):St w0 X bs Q w.drew:=h.below (vM (Below.refl _ _))
theorem St.drewN (h:St w0 X bs Q w) (n:Nat):St w0 X bs Q (w.drewN n):=h.below (jZ (Below.refl _ _) n)
theorem St.and (h:St w0 X bs Q w) (hq:Foot Q' w (fun k=>¬X k∧∀b ∈ bs,b.1≠k)):St w0 X bs (fun W=>Q W∧Q' W) w:=⟨h.be,fun W hW=>⟨h.ft W hW,hq W hW⟩,h.bx,h.nd⟩
theorem St.imp (h:St w0 X bs Q w) (hi:∀W,Q W→Q' W):St w0 X bs Q' w:=⟨h.be,h.ft.imp hi,h.bx,h.nd⟩
theorem St.call (h:St w0 X bs Q w) (hb:Below w.heap.size w w1) (hq:Foot Q' w1 (fun k=>w.heap.size≤k)) (hx:∀k,w.heap.size≤k→¬X k):St w0 X bs (fun W=>Q W∧Q' W) w1:=
 (h.below hb).and (hq.mono (fun k hk=>⟨hx k hk,fun b hm e=>by have:=eF (h.bx b hm).2.2;omega⟩))
theorem St.box (h:St w0 X bs Q w) (hg:g=w.heap.size) (hbox:w1.heap[g]? = some (.cells cs 27 (0,0))) (hb:Below w.heap.size w w1) (hs:cs.size=4):St w0 X ((g,cs)::bs) Q w1:=by
 have h1:=h.below hb;refine⟨h1.be,(h.ft.tu hb).mono (fun k hk=>⟨hk.1.1,fun b hm=>?_⟩),fun b hm=>?_,List.pairwise_cons.2 ⟨fun b hm e=>?_,h.nd⟩⟩
 ·rcases List.mem_cons.1 hm with rfl|hm
  ·exact fun e=>by have:=hk.2;simp only at e;omega
  ·exact hk.1.2 b hm
 ·rcases List.mem_cons.1 hm with rfl|hm
  ·exact⟨by have:=h.be.size;simp only;omega,hs,hbox⟩
  ·exact h1.bx b hm
 ·have:=eF (h.bx b hm).2.2;simp only at e;omega
theorem St.set (h:St w0 X bs Q w) (i:Nat) (hi:bs[i]? = some (g,cs)) (hs:cs'.size=4):St w0 X (bs.set i (g,cs')) Q (w.setRow g cs'):=by
 have hm:(g,cs) ∈ bs:=List.mem_of_getElem? hi;have hbx:=h.bx _ hm;have hil:i<bs.length:=(List.getElem?_eq_some_iff.1 hi).1;have hgi:bs[i]=(g,cs):=(List.getElem?_eq_some_iff.1 hi).2;have ho:∀k,k≠g→(w.setRow g cs').heap[k]? = w.heap[k]?:=fun k hk=>by simp only[World.setRow,Array.getElem?_modify];rw[if_neg (fun e=>hk e.symm)]
 have hfst:∀b ∈ bs.set i (g,cs'),∃b' ∈ bs,b'.1=b.1:=fun b hb=>by
  rcases List.mem_or_eq_of_mem_set hb with hb|rfl
  ·exact⟨b,hb,rfl⟩
  ·exact⟨_,hm,rfl⟩
 have hmap:(bs.set i (g,cs')).map (·.1)=bs.map (·.1):=by
  rw[List.map_set];refine List.ext_getElem? (fun j=>?_);rw[List.getElem?_set];split
  ·rename_i e;subst e;simp[hil,hgi]
  ·rfl
 refine⟨?_,h.ft.step (fun k hk _=>ho k (fun e=>hk.2 _ hm e.symm)) |>.mono (fun k hk=>⟨hk.1,fun b hb=>?_⟩),fun b hb=>?_,?_⟩
 ·exact h.be.trans ⟨rfl,rfl,rfl,by simp[World.setRow],fun k hk=>ho k (by have:=hbx.1;simp only at this;omega)⟩
 ·obtain⟨b',hb',e⟩:=hfst b hb;rw[←e];exact hk.2 b' hb'
 ·obtain⟨j,hj⟩:=List.mem_iff_getElem?.1 hb;rw[List.getElem?_set]at hj;by_cases e:i=j
  ·subst e;rw[if_pos rfl,if_pos hil]at hj;obtain rfl:=Option.some.inj hj;refine⟨hbx.1,hs,?_⟩;exact setRow_heap w g cs _ _ _ hbx.2.2
  ·rw[if_neg e]at hj;have hbm:=List.mem_of_getElem? hj;obtain⟨a1,a2,a3⟩:=h.bx b hbm;refine⟨a1,a2,(ho _ (fun e2=>?_)).trans a3⟩;obtain⟨hjl,hjb⟩:=List.getElem?_eq_some_iff.1 hj;have hp:=List.pairwise_iff_getElem.1 h.nd
   rcases Nat.lt_or_ge i j with hlt|hge
   ·have:=hp i j hil hjl hlt;rw[hgi,hjb]at this;exact this e2.symm
   ·have:=hp j i hjl hil (by omega);rw[hgi,hjb]at this;exact this e2
 ·rw[←List.pairwise_map (R:=fun a b=>a≠b)] at *
  rw[hmap];exact List.pairwise_map.2 h.nd
end
section
variable {ops:Array Oper} {rest:List Oper} {o:Oper} {a:Act} {K:Exit→Act→World→Prop} {w0 w:World} {X:Nat→Prop} {bs:List (Nat × Array Value)} {Q:World→Prop} {g:Nat} {cs cs':Array Value} {d:Dk}
theorem Tryz.gT:(Tryz.prog.info? 27).map (·.size)=some 4:=by kernel_rfl
theorem bu (i:Nat) (HS:St w0 X bs Q w) {p:Tmp}
 (h:wpList Tryz.prog ops K rest (a.put o.dst (.agg cs)) w)
 (hi:bs[i]? = some (g,cs):=by rfl) (ho:o.op = .load 27 (.tmp p):=by rfl) (he:a.eval (.tmp p) = .pointer (some ⟨g,0,none⟩):=by rfl) (hg:o.guard=none:=by rfl):wpList Tryz.prog ops K (o::rest) a w:=by
 have hb:=HS.bx _ (List.mem_of_getElem? hi);exact wpList_load_row hg 27 (.tmp p) ho g he 27 cs (0,0) _ hb.2.2 Tryz.underlying27 rfl (by rw[Tryz.gT];exact congrArg some hb.2.1.symm) h
theorem ZJ {w:World} (hb:w.heap[g]? = some (.cells cs 27 (0,0))) (h4:cs.size=4) (Wg:cs'.size=4) (h1:∀u ∈ cs'.toList,u.oneCell'=true):(Instr.storeAt 27 (.pointer (some ⟨g,0,none⟩)) (.agg cs')).run Tryz.prog w = .ok () (w.setRow g cs'):=by
 have hst:=run_storeVar_row (P:=Tryz.prog) w g 27 27 cs cs' hb (by rw[Tryz.gT,Wg]) (by rw[h4,Wg]) (by rw[Array.all_eq_true_iff_forall_mem];exact fun u hu=>h1 u (by simpa using hu));simp only[Instr.storeAt,Instr.sureAddr,Sem.run_bind,Sem.run_pure,Result.andThen];exact hst
theorem dQ (i:Nat) (HS:St w0 X bs Q w) (hd:cO cs' d w) {p:Tmp} {x:Operand}
 (h:∀w1,St w0 X (bs.set i (g,cs')) Q w1→wpList Tryz.prog ops K rest a w1)
 (hi:bs[i]? = some (g,cs):=by rfl) (ho:o.op = .store 27 (.tmp p) x:=by rfl) (he:a.eval (.tmp p) = .pointer (some ⟨g,0,none⟩):=by rfl) (hx:a.eval x = .agg cs':=by rfl) (hN:o.dst=none:=by rfl) (hg:o.guard=none:=by rfl):wpList Tryz.prog ops K (o::rest) a w:=by
 have hb:=HS.bx _ (List.mem_of_getElem? hi);refine wpList_plain hg fun K' hK=>?_
 have hrun:(execOp a.eval o).run Tryz.prog w = .ok .skip (w.setRow g cs'):=by
  unfold execOp;simp[ho,he,hx,ZJ hb.2.2 hb.2.1 hd.size hd.one]
 unfold Oper.wp;rw[hrun];show K' (a.put o.dst undef) _;rw[hN];exact hK _ _ (h _ (HS.set i hi hd.size))
end
end Go.Proofs.YtingkpnoiekliaaGreat.MZ
end
section
namespace Go.Proofs.YtingkpnoiekliaaGreat.MZ
open Go.RowKit Go.Proofs.YtingkpnoiekliaaGreatW.PrintWords Go.Proofs.YtingkpnoiekliaaGreatW.PrintLast Go.Proofs.YtingkpnoiekliaaGreatW.PrintMore Go.Proofs.YtingkpnoiekliaaGreat.MWords
set_option linter.unusedVariables false
set_option linter.unusedSimpArgs false
theorem St.start (w:World) (X:Nat→Prop):St w X [] (fun _=>True) w:=⟨Below.refl _ _,fun _ _=>trivial,fun b hb=>absurd hb (by simp),List.Pairwise.nil⟩
theorem dO {cs:Array Value} {d:Dk} {w w1:World} (h:cO cs d w) (hb:Below w.heap.size w w1):cO cs d w1:=Hv.K_below hb h
section
variable {ops:Array Oper} {rest:List Oper} {o:Oper} {a:Act} {K:Exit→Act→World→Prop} {w0 we w:World} {bs:List (Nat × Array Value)} {Q:World→Prop} {g gb:Nat} {cs cs':Array Value} {d:Dk}
theorem amF (hb:w.heap[gb]? = some (.cells cs 27 (0,0))) (h4:cs.size=4) {w':World} (hd:cO cs' d w') {p:Tmp} {x:Operand} (ho:o.op = .store 27 (.tmp p) x) (he:a.eval (.tmp p) = .pointer (some ⟨gb,0,none⟩)) (hx:a.eval x = .agg cs'):(execOp a.eval o).run Tryz.prog w = .ok .skip (w.setRow gb cs'):=by
 unfold execOp;simp[ho,he,hx,ZJ hb h4 hd.size hd.one]
theorem amE (hb:w.heap[gb]? = some (.cells cs 27 (0,0))) (h4:cs.size=4) {p:Tmp} (ho:o.op = .load 27 (.tmp p)) (he:a.eval (.tmp p) = .pointer (some ⟨gb,0,none⟩)):(execOp a.eval o).run Tryz.prog w = .ok (.value (.agg cs)) w:=by
 unfold execOp;simp only[ho,he,Instr.loadAt,Instr.sureAddr,Sem.run_bind,Sem.run_pure,Result.andThen_ok,run_loadVar_row w gb 27 27 cs (0,0) _ hb Tryz.underlying27 rfl (by rw[Tryz.gT];exact congrArg some h4.symm)]
theorem bP {R:Ending→World→Prop} {n:Tmp} {f:FuncId} {fn:Func} {ax:Array Operand} {ts:Array TypeId} (hf:Tryz.prog.funcs[f]? = some fn) {args:Array Value} (hc:Calls Tryz.prog f args w R)
 (hR:∀e w',R e w'→∃v,e = .returned v∧wpList Tryz.prog ops K rest (a.put (some n) v) w')
 (hop:o.op = .call { callee:=.value (.func f),args:=ax,argTypes:=ts }:=by rfl) (hd:o.dst=some n:=by rfl) (hg:o.guard=none:=by rfl) (hname:(fn.name == "runtime.NumGoroutine")=false:=by kernel_rfl) (hb:fn.body.isSome=true:=by rfl)
 (hargs:ax.map a.eval=args:=by (try simp only[List.map_toArray,List.map_cons,List.map_nil]);first|done|rfl):wpList Tryz.prog ops K (o::rest) a w:=
 qL (some n) hd hg hf hname hb args hop hargs (hc.mono (fun e w' h=>hR e w' h))
end
section
variable {md:Region.Mode} {ops:Array Oper} {Q:Exit→Act→World→Prop} {S:World→Prop} {ds:List Nat} {oi:Oper} {v:Value} {fuel:Nat} {l:Array Bool} {a a':Act} {w:World}
theorem rP (i:Nat) {n:Tmp} (l':Array Bool) (h:ck Tryz.prog md ops Q S ds fuel l' a' w) (hi:ops[i]? = some oi:=by exact rfl) (hN:oi.dst=some n:=by exact rfl) (hk:yz md ops l l' i=true:=by kernel_rfl) (hQ:∀c a w,Q (.panic c) (a.put oi.dst v) w→Q (.panic c) a w:=by exact fun _ _ _ h=>h)
 (hw:Region.wanted oi (yielded ops a.tmps)=true:=by rfl) (hv:∀w,(execOp a.eval oi).run Tryz.prog w = .ok (.value v) w:=by intro w';go_simp;with_reducible rfl) (ha:a.put (some n) v=a':=by simp only[Act.put,zA,zB,zC,dJ,gx];rfl) :
 ck Tryz.prog md ops Q S ds (fuel+1) l a w:=Ad l' hi hN hk hQ (Or.inl ⟨hw,hv⟩) ha h
theorem rL (i:Nat) {n p:Tmp} {gb:Nat} {cs:Array Value} (l':Array Bool) (hS:S w) (hs:∀W,S W→W.heap[gb]? = some (.cells cs 27 (0,0))) (h4:cs.size=4) (h:ck Tryz.prog md ops Q S ds fuel l' a' w) (hi:ops[i]? = some oi:=by exact rfl) (hN:oi.dst=some n:=by exact rfl) (ho:oi.op = .load 27 (.tmp p):=by rfl) (he:a.eval (.tmp p) = .pointer (some ⟨gb,0,none⟩):=by rfl) (hk:tB md ops ds l l' i=true:=by kernel_rfl) (hQ:∀c a w,Q (.panic c) (a.put oi.dst (.agg cs)) w→Q (.panic c) a w:=by exact fun _ _ _ h=>h)
 (hw:Region.wanted oi (yielded ops a.tmps)=true:=by rfl) (ha:a.put (some n) (.agg cs)=a':=by simp only[Act.put,zA,zB,zC,dJ,gx];rfl) :
 ck Tryz.prog md ops Q S ds (fuel+1) l a w:=vm l' hi hN hk hQ (Or.inl ⟨hw,fun W hW=>amE (hs W hW) h4 ho he⟩) hS ha h
theorem rC {R:Ending→World→Prop} (i:Nat) {n:Tmp} (l':Array Bool) {f:FuncId} {fn:Func} {ax:Array Operand} {ts:Array TypeId} (hf:Tryz.prog.funcs[f]? = some fn) {args:Array Value} (hc:Calls Tryz.prog f args w R)
 (hR:∀e w',R e w'→∃v,e = .returned v∧S w'∧(S w'→ck Tryz.prog md ops Q S ds fuel l' (a.put (some n) v) w'))
 (hi:ops[i]? = some oi:=by exact rfl) (hN:oi.dst=some n:=by exact rfl) (hop:oi.op = .call { callee:=.value (.func f),args:=ax,argTypes:=ts }:=by rfl) (hk:tx md ops l l' i=true:=by kernel_rfl) (hd:i ∉ ds:=by decide)
 (hw:Region.wanted oi (yielded ops a.tmps)=true:=by rfl) (hname:(fn.name == "runtime.NumGoroutine")=false:=by kernel_rfl) (hb:fn.body.isSome=true:=by rfl) (hargs:ax.map a.eval=args:=by (try simp only[List.map_toArray,List.map_cons,List.map_nil]);first|done|rfl) :
 ck Tryz.prog md ops Q S ds (fuel+1) l a w:=
 HQ l' hi hN hk hd (fun K hK=>iU hf hname hb args hw hN hop hargs (hc.mono (fun e w' h=>by
  obtain⟨v,he,hS,hn⟩:=hR e w' h;exact⟨v,he,hK _ _ hS hn⟩)))
theorem rS (i:Nat) {gb:Nat} {cs cs':Array Value} {d:Dk} {p:Tmp} {x:Operand} {w':World} (l':Array Bool) (hb:w.heap[gb]? = some (.cells cs 27 (0,0))) (h4:cs.size=4) (hd:cO cs' d w') (h:ck Tryz.prog md ops Q S ds fuel l' a (w.setRow gb cs')) (hi:ops[i]? = some oi:=by exact rfl) (ho:oi.op = .store 27 (.tmp p) x:=by rfl) (he:a.eval (.tmp p) = .pointer (some ⟨gb,0,none⟩):=by rfl) (hx:a.eval x = .agg cs':=by rfl) (hN:oi.dst=none:=by exact rfl) (hk:tx md ops l l' i=true:=by kernel_rfl) (hd:i ∈ ds:=by decide)
 (hw:Region.wanted oi (yielded ops a.tmps)=true:=by rfl):ck Tryz.prog md ops Q S ds (fuel+1) l a w:=
 Hz l' hi hN hk hd (fun K hK=>uR hw hN (amF hb h4 ‹cO cs' d w'› ho he hx) (hK _ _ h))
theorem rN {a':Act} (h:ck Tryz.prog md ops Q S ds fuel l a' w) (e:a=a':=by simp only[Act.put,zA,zB,zC,dJ,gx];rfl):ck Tryz.prog md ops Q S ds fuel l a w:=zE e h
end
section
variable {ops:Array Oper} {oi:Oper} {a:Act} {w:World} {K:Act→World→Prop} {Q:Exit→Act→World→Prop}
theorem kC {R:Ending→World→Prop} {N:Option Tmp} {f:FuncId} {fn:Func} {ax:Array Operand} {ts:Array TypeId} (hf:Tryz.prog.funcs[f]? = some fn) {args:Array Value} (hc:Calls Tryz.prog f args w R)
 (hR:∀e w',R e w'→∃v,e = .returned v∧K (a.put N v) w')
 (hop:oi.op = .call { callee:=.value (.func f),args:=ax,argTypes:=ts }:=by rfl) (hN:oi.dst=N:=by exact rfl) (hw:Region.wanted oi (yielded ops a.tmps)=true:=by rfl) (hname:(fn.name == "runtime.NumGoroutine")=false:=by kernel_rfl) (hb:fn.body.isSome=true:=by rfl) (hargs:ax.map a.eval=args:=by (try simp only[List.map_toArray,List.map_cons,List.map_nil]);first|done|rfl) :
 if Region.wanted oi (yielded ops a.tmps)=true then Oper.wp Tryz.prog oi a w K Q else K (a.put N undef) w:=
 iU hf hname hb args hw hN hop hargs (hc.mono (fun e w' h=>hR e w' h))
theorem kB {N:Tmp} (cs:Array Value) (t:TypeId) (h:∀g,g=w.heap.size→∀w1,w1.heap[g]? = some (.cells cs t (0,0))→Below w.heap.size w w1→K (a.put (some N) (.pointer (some ⟨g,0,none⟩))) w1)
 (hd:oi.dst=some N:=by exact rfl) (hw:Region.wanted oi (yielded ops a.tmps)=true:=by rfl) (hrun:(execOp a.eval oi).run Tryz.prog w = .ok (.value (.pointer (some ⟨w.heap.size,0,none⟩))) (w.alloc (.cells cs t (0,0))):=by first|(go_simp;done)|(go_simp;rfl)) :
 if Region.wanted oi (yielded ops a.tmps)=true then Oper.wp Tryz.prog oi a w K Q else K (a.put (some N) undef) w:=by
 have:=rM (Q:=Q) hw hd hrun (Kc:=K) (by rw[hd];exact h);rw[hd]at this;exact this
end
theorem rB {md:Region.Mode} {ops:Array Oper} {Q:Exit→Act→World→Prop} {S:World→Prop} {ds:List Nat} {oi:Oper} {fuel:Nat} {l:Array Bool} {a:Act} {w:World} (i:Nat) {n:Tmp} (l':Array Bool) (cs:Array Value) (t:TypeId)
 (h:∀g,g=w.heap.size→∀w1,w1.heap[g]? = some (.cells cs t (0,0))→Below w.heap.size w w1→S w1∧(S w1→ck Tryz.prog md ops Q S ds fuel l' (a.put (some n) (.pointer (some ⟨g,0,none⟩))) w1))
 (hi:ops[i]? = some oi:=by exact rfl) (hN:oi.dst=some n:=by exact rfl) (hk:tx md ops l l' i=true:=by kernel_rfl) (hd:i ∉ ds:=by decide) (hw:Region.wanted oi (yielded ops a.tmps)=true:=by rfl)
 (hrun:(execOp a.eval oi).run Tryz.prog w = .ok (.value (.pointer (some ⟨w.heap.size,0,none⟩))) (w.alloc (.cells cs t (0,0))):=by first|(go_simp;done)|(go_simp;rfl)):ck Tryz.prog md ops Q S ds (fuel+1) l a w:=
 HQ l' hi hN hk hd (fun K hK=>kB cs t (fun g hg w1 hx hb=>hK _ _ (h g hg w1 hx hb).1 (h g hg w1 hx hb).2) hN hw hrun)
section
variable {md:Region.Mode} {ops:Array Oper} {Q:Exit→Act→World→Prop} {S:World→Prop} {ds:List Nat} {oi:Oper} {v:Value} {fuel:Nat} {l:Array Bool} {a a':Act} {w:World}
theorem rT (i:Nat) {n:Tmp} (l':Array Bool) (hS:S w) (h:ck Tryz.prog md ops Q S ds fuel l' a' w) (hi:ops[i]? = some oi:=by exact rfl) (hN:oi.dst=some n:=by exact rfl) (hk:tB md ops ds l l' i=true:=by kernel_rfl) (hQ:∀c a w,Q (.panic c) (a.put oi.dst v) w→Q (.panic c) a w:=by exact fun _ _ _ h=>h)
 (hw:Region.wanted oi (yielded ops a.tmps)=true:=by rfl) (hv:∀w,S w→(execOp a.eval oi).run Tryz.prog w = .ok (.value v) w:=by intro w' hs_;repeat (obtain⟨s_,hs_⟩:=hs_);go_simp;with_reducible rfl) (ha:a.put (some n) v=a':=by simp only[Act.put,zA,zB,zC,dJ,gx];rfl) :
 ck Tryz.prog md ops Q S ds (fuel+1) l a w:=vm l' hi hN hk hQ (Or.inl ⟨hw,hv⟩) hS ha h
end
section
variable {w0 w w1:World} {X:Nat→Prop} {bs:List (Nat × Array Value)} {Q:World→Prop} {g:Nat} {cs:Array Value}
theorem St.amX (h:St w0 X bs Q w) (i j:Nat) (u:Value) (hi:bs[i]? = some (g,cs)):St w0 X (bs.set i (g,cs.setIfInBounds j u)) Q (w.setCell ⟨g,j,none⟩ u):=by
 have hb:=(h.bx _ (List.mem_of_getElem? hi)).2;have h1:=h.set i hi (cs':=cs.setIfInBounds j u) (by rw[Array.size_setIfInBounds];exact hb.1)
 rwa [←setCell_eq_setRow w g j cs _ (0,0) u hb.2]at h1
theorem St.kept (h:St w0 X bs Q w) {S:Nat→Prop} (hb:Below w0.heap.size w0 w1) (hk:Kept w w1 S) (hn:∀b ∈ bs,¬S b.1):St w0 X bs (fun _=>True) w1:=
 ⟨hb,fun _ _=>trivial,fun b hm=>⟨(h.bx b hm).1,(h.bx b hm).2.1,(hk.2 _ (eF (h.bx b hm).2.2) (hn b hm)).trans (h.bx b hm).2.2⟩,h.nd⟩
end
section
variable {ops:Array Oper} {rest:List Oper} {o:Oper} {a:Act} {K:Exit→Act→World→Prop} {w0 w:World} {X:Nat→Prop} {bs:List (Nat × Array Value)} {Q:World→Prop} {g:Nat} {cs:Array Value} {u:Value} {t:TypeId} {p:Tmp} {x:Operand}
theorem kI (i j:Nat) (HS:St w0 X bs Q w) (h:wpList Tryz.prog ops K rest (a.put o.dst u) w) (hi:bs[i]? = some (g,cs):=by rfl) (ho:o.op = .load t (.tmp p):=by rfl) (he:a.eval (.tmp p) = .pointer (some ⟨g,j,none⟩):=by rfl) (hu:cs[j]? = some u:=by rfl) (hg:o.guard=none:=by rfl)
 (hrun:∀W:World,W.cell? ⟨g,j,none⟩=some u→(execOp a.eval o).run Tryz.prog W = .ok (.value u) W:=by intro W hc;first|(go_simp;done)|(go_simp;rfl)):wpList Tryz.prog ops K (o::rest) a w:=
 Kd.yO hg (hrun w ((cell_of_row w g j cs _ _ (HS.bx _ (List.mem_of_getElem? hi)).2.2).trans hu)) h
theorem AS (i j:Nat) (HS:St w0 X bs Q w) (h:∀w1,St w0 X (bs.set i (g,cs.setIfInBounds j u)) Q w1→wpList Tryz.prog ops K rest a w1) (hi:bs[i]? = some (g,cs):=by rfl) (ho:o.op = .store t (.tmp p) x:=by rfl) (he:a.eval (.tmp p) = .pointer (some ⟨g,j,none⟩):=by rfl) (hx:a.eval x=u:=by rfl) (hj:j<4:=by decide) (hN:o.dst=none:=by rfl) (hg:o.guard=none:=by rfl)
 (hrun:∀(W:World) (y:Value),W.cell? ⟨g,j,none⟩=some y→W.frozen? ⟨g,j,none⟩=false→(execOp a.eval o).run Tryz.prog W = .ok .skip (W.setCell ⟨g,j,none⟩ u):=by intro W y hc hf;first|(go_simp;done)|(go_simp;rfl)):wpList Tryz.prog ops K (o::rest) a w:=by
 have hb:=(HS.bx _ (List.mem_of_getElem? hi)).2;have hjs:j<cs.size:=by rw[hb.1];exact hj
 exact uS hg ho hN (hrun w cs[j] ((cell_of_row w g j cs _ _ hb.2).trans (by simp[hjs])) (eA hb.2 j)) (fun w' e=>h w' (e▸HS.amX i j u hi))
end
theorem St.pair {w0 w:World} {X:Nat→Prop} {bs:List (Nat × Array Value)} {Q:World→Prop} {g t:Nat} {cells:Array Value} (h:St w0 X bs Q w) (hb:w.heap[g]? = some (.cells cells t (0,0))) (hg:w0.heap.size≤g) (hn:∀b ∈ bs,b.1≠g) (j:Nat) (u:Value):St w0 X bs (fun _=>True) (w.setCell ⟨g,j,none⟩ u):=by
 have ho:∀k,k≠g→(w.setCell ⟨g,j,none⟩ u).heap[k]? = w.heap[k]?:=fun k hk=>Below.heap_setCell w ⟨g,j,none⟩ u k hk
 refine⟨hZ h.be hg,fun _ _=>trivial,fun b hm=>⟨(h.bx b hm).1,(h.bx b hm).2.1,(ho _ (hn b hm)).trans (h.bx b hm).2.2⟩,h.nd⟩
theorem St.two {w0 w:World} {X:Nat→Prop} {bs:List (Nat × Array Value)} {Q:World→Prop} {g t:Nat} {x0 x1 u0 u1:Value} (h:St w0 X bs Q w) (hb:w.heap[g]? = some (.cells #[x0,x1] t (0,0))) (hg:w0.heap.size≤g) (hn:∀b ∈ bs,b.1≠g):St w0 X bs (fun _=>True) ((w.setCell ⟨g,0,none⟩ u0).setCell ⟨g,1,none⟩ u1)∧((w.setCell ⟨g,0,none⟩ u0).setCell ⟨g,1,none⟩ u1).heap[g]? = some (.cells #[u0,u1] t (0,0)):=by
 have h1:=yC hb 0 u0;exact⟨(h.pair hb hg hn 0 u0).pair h1 hg hn 1 u1,yC h1 1 u1⟩
theorem St.tri {w0 w:World} {X:Nat→Prop} {bs:List (Nat × Array Value)} {Q:World→Prop} {g t:Nat} {x0 x1 x2 u0 u1 u2:Value} (h:St w0 X bs Q w) (hb:w.heap[g]? = some (.cells #[x0,x1,x2] t (0,0))) (hg:w0.heap.size≤g) (hn:∀b ∈ bs,b.1≠g):St w0 X bs (fun _=>True) (((w.setCell ⟨g,0,none⟩ u0).setCell ⟨g,1,none⟩ u1).setCell ⟨g,2,none⟩ u2)∧(((w.setCell ⟨g,0,none⟩ u0).setCell ⟨g,1,none⟩ u1).setCell ⟨g,2,none⟩ u2).heap[g]? = some (.cells #[u0,u1,u2] t (0,0)):=by
 have h1:=yC hb 0 u0;have h2:=yC h1 1 u1;exact⟨((h.pair hb hg hn 0 u0).pair h1 hg hn 1 u1).pair h2 hg hn 2 u2,yC h2 2 u2⟩
theorem St.fresh {w0 w:World} {X:Nat→Prop} {bs:List (Nat × Array Value)} {Q:World→Prop} {g:Nat} (h:St w0 X bs Q w) (hg:g=w.heap.size):∀b ∈ bs,b.1≠g:=fun b hm hc=>(by have:=eF (h.bx b hm).2.2;omega)
theorem JK {ops:Array Oper} {rest:List Oper} {o:Oper} {a:Act} {Q:Exit→Act→World→Prop} {W:World} {t:TypeId} {p:Operand} (_ho:o.op = .load t p) (h:wpList Tryz.prog ops Q (o::rest) a W):wpList Tryz.prog ops Q (o::rest) a W:=h
theorem uM {w w1:World} {a1 a2 a3 a4 a5 a6 a7:Addr} {v1 v2 v3 v4 v5 v6 v7:Value} (hb:Below w.heap.size w w1) (h:w.cell? a1=some v1∧w.cell? a2=some v2∧w.cell? a3=some v3∧w.cell? a4=some v4∧w.cell? a5=some v5∧w.cell? a6=some v6∧w.cell? a7=some v7):w1.cell? a1=some v1∧w1.cell? a2=some v2∧w1.cell? a3=some v3∧w1.cell? a4=some v4∧w1.cell? a5=some v5∧w1.cell? a6=some v6∧w1.cell? a7=some v7:=⟨mX hb h.1,mX hb h.2.1,mX hb h.2.2.1,mX hb h.2.2.2.1,mX hb h.2.2.2.2.1,mX hb h.2.2.2.2.2.1,mX hb h.2.2.2.2.2.2⟩
theorem xb {w w1:World} {a1 a2 a3 a4 a5 a6 a7 a8:Addr} {v1 v2 v3 v4 v5 v6 v7 v8:Value} (hb:Below w.heap.size w w1) (h:w.cell? a1=some v1∧w.cell? a2=some v2∧w.cell? a3=some v3∧w.cell? a4=some v4∧w.cell? a5=some v5∧w.cell? a6=some v6∧w.cell? a7=some v7∧w.cell? a8=some v8):w1.cell? a1=some v1∧w1.cell? a2=some v2∧w1.cell? a3=some v3∧w1.cell? a4=some v4∧w1.cell? a5=some v5∧w1.cell? a6=some v6∧w1.cell? a7=some v7∧w1.cell? a8=some v8:=⟨mX hb h.1,uM hb h.2⟩
section
variable {md:Region.Mode} {ops:Array Oper} {Q:Exit→Act→World→Prop} {S:World→Prop} {ds:List Nat} {oi:Oper} {v:Value} {fuel i m:Nat} {a a':Act} {w:World}
theorem sP {n:Tmp} (h:ck Tryz.prog md ops Q S ds fuel (mb (i+1) m) a' w) (hk:yz md ops (mb i (m+1)) (mb (i+1) m) i=true:=by decide +kernel) (hi:ops[i]? = some oi:=by exact rfl) (hN:oi.dst=some n:=by exact rfl) (hQ:∀c a w,Q (.panic c) (a.put oi.dst v) w→Q (.panic c) a w:=by exact fun _ _ _ h=>h)
 (hw:Region.wanted oi (yielded ops a.tmps)=true:=by rfl) (hv:∀w,(execOp a.eval oi).run Tryz.prog w = .ok (.value v) w:=by intro w';go_simp;with_reducible rfl) (ha:a.put (some n) v=a':=by simp only[Act.put,zA,zB,zC,dJ,gx];rfl) :
 ck Tryz.prog md ops Q S ds (fuel+1) (mb i (m+1)) a w:=Ad _ hi hN hk hQ (Or.inl ⟨hw,hv⟩) ha h
theorem sU {n:Tmp} (h:ck Tryz.prog md ops Q S ds fuel (mb (i+1) m) a' w) (hi:ops[i]? = some oi:=by exact rfl) (hN:oi.dst=some n:=by exact rfl) (hw:Region.wanted oi (yielded ops a.tmps)=false:=by rfl) (hk:yz md ops (mb i (m+1)) (mb (i+1) m) i=true:=by kernel_rfl) (hQ:∀c a w,Q (.panic c) (a.put oi.dst undef) w→Q (.panic c) a w:=by exact fun _ _ _ h=>h)
 (ha:a.put (some n) undef=a':=by simp only[Act.put,zA,zB,zC,dJ,gx];rfl) :
 ck Tryz.prog md ops Q S ds (fuel+1) (mb i (m+1)) a w:=Ad _ hi hN hk hQ (Or.inr ⟨hw,rfl⟩) ha h
theorem sL {n p:Tmp} {gb:Nat} {cs:Array Value} (hS:S w) (hs:∀W,S W→W.heap[gb]? = some (.cells cs 27 (0,0))) (h4:cs.size=4) (h:ck Tryz.prog md ops Q S ds fuel (mb (i+1) m) a' w) (hi:ops[i]? = some oi:=by exact rfl) (hN:oi.dst=some n:=by exact rfl) (ho:oi.op = .load 27 (.tmp p):=by rfl) (he:a.eval (.tmp p) = .pointer (some ⟨gb,0,none⟩):=by rfl) (hk:tB md ops ds (mb i (m+1)) (mb (i+1) m) i=true:=by kernel_rfl) (hQ:∀c a w,Q (.panic c) (a.put oi.dst (.agg cs)) w→Q (.panic c) a w:=by exact fun _ _ _ h=>h)
 (hw:Region.wanted oi (yielded ops a.tmps)=true:=by rfl) (ha:a.put (some n) (.agg cs)=a':=by simp only[Act.put,zA,zB,zC,dJ,gx];rfl) :
 ck Tryz.prog md ops Q S ds (fuel+1) (mb i (m+1)) a w:=rL i _ hS hs h4 h hi hN ho he hk hQ hw ha
theorem sC {R:Ending→World→Prop} {n:Tmp} {f:FuncId} {fn:Func} {ax:Array Operand} {ts:Array TypeId} (hf:Tryz.prog.funcs[f]? = some fn) {args:Array Value} (hc:Calls Tryz.prog f args w R)
 (hR:∀e w',R e w'→∃v,e = .returned v∧S w'∧(S w'→ck Tryz.prog md ops Q S ds fuel (mb (i+1) m) (a.put (some n) v) w'))
 (hi:ops[i]? = some oi:=by exact rfl) (hN:oi.dst=some n:=by exact rfl) (hop:oi.op = .call { callee:=.value (.func f),args:=ax,argTypes:=ts }:=by rfl) (hk:tx md ops (mb i (m+1)) (mb (i+1) m) i=true:=by kernel_rfl) (hd:i ∉ ds:=by decide)
 (hw:Region.wanted oi (yielded ops a.tmps)=true:=by rfl) (hname:(fn.name == "runtime.NumGoroutine")=false:=by kernel_rfl) (hb:fn.body.isSome=true:=by rfl) (hargs:ax.map a.eval=args:=by (try simp only[List.map_toArray,List.map_cons,List.map_nil]);first|done|rfl) :
 ck Tryz.prog md ops Q S ds (fuel+1) (mb i (m+1)) a w:=rC i _ hf hc hR hi hN hop hk hd hw hname hb hargs
end
end Go.Proofs.YtingkpnoiekliaaGreat.MZ
end
