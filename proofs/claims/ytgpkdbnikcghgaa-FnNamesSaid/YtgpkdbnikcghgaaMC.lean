/- The functions over disks by contract: what comes in is read alone, what is answered lies in new blocks. -/
import Derived.Test.YtgpkdbnikcghgaaMU
import Derived.Test.YtgpkdbnikcghgaaMPD
namespace Go.Proofs.Ytgpkdbnikcghgaa.MD
open Go.RowKit Go.Proofs.YtgpkdbnikcghgaaW.PrintWords Go.Proofs.YtgpkdbnikcghgaaW.PrintLast Go.Proofs.YtgpkdbnikcghgaaW.PrintMore Go.Proofs.Ytgpkdbnikcghgaa.MWords Go.Proofs.Ytgpkdbnikcghgaa.MPD
set_option linter.unusedVariables false
def Pd (w:World) (r:lH) (e:Ending) (w':World):Prop:=∃cs',e = .returned (.tuple #[.agg cs',.int .i64 r.2.2.2.2])∧Rs w w' cs' ⟨r.1,r.2.1,r.2.2.1,r.2.2.2.1⟩
def Pf (w:World) (r:List aj × List ah × List ah × Int) (e:Ending) (w':World):Prop:=∃cs',e = .returned (.agg cs')∧Rs w w' cs' ⟨r.1,r.2.1,r.2.2.1,r.2.2.2⟩
def Rb (w w':World) (A:Option Addr) (c:Nat) (l:List Int):Prop:=l.length≤c∧Foot (fun W=>Kd.C (Kd.int .u8) W A l.length l) w' (fun k=>w.heap.size≤k)∧Below w.heap.size w w'
theorem aoQ {w w':World} {p:Nat→Prop} {v:Value} {l:List Int} (h:Kd.R (Kd.int .u8) 5 w' w.heap.size p v l) (hb:Below w.heap.size w w'):∃A c,v = .slice A l.length c∧Rb w w' A c l:=by
 have g:=Kd.jS h;obtain⟨A,c,rfl,e,_⟩:=Kd.qb g;exact⟨A,c,rfl,e,Kd.tD (Kd.CR g) (fun k hk=>hk.2.1),hb⟩
section
variable {w:World} {cs:Array Value} {d:Dk} {nm:ByteArray}
theorem ahR {keep:Int} (hd:eT cs d w) (hs:Small d.f0 d.f1 d.f2) (hl:∀x ∈ d.f0,x.f1.length≤1048576) (GO:keep≤9223372036854775807):Calls Try.prog 38 #[.agg cs,.int .i64 keep] w (Pf w (pc (b8 d.f0 d.f1 d.f2 d.f3) d.f0 d.f1 d.f2 d.f3 keep)):=by
 obtain⟨K,hk⟩:=an6 d.f0 d.f1 d.f2 d.f3 keep hs.h0 hl hs.h1 hs.h2 hs.z1 hs.z2 GO;obtain⟨A0,c0,A1,c1,A2,c2,rfl,l0,g0,l1,g1,l2,g2⟩:=hd.open;exact(eg.calls K _ _ _ _ _ _ _ _ _ _ _ _ _ _ _ w g0 l0 g1 l1 g2 l2 (hk K (Nat.le_refl _))).mono (fun e w' ⟨v0,v1,v2,he,h0,h1,h2,hb⟩=>⟨_,he,Uh h0 h1 h2 hb⟩)
theorem X0 {keep:Int} {r:List aj × List ah × List ah × Int} (hd:eT cs d w) (hs:Small d.f0 d.f1 d.f2) (hl:∀x ∈ d.f0,x.f1.length≤1048576) (GO:keep≤9223372036854775807) (hr:pc (b8 d.f0 d.f1 d.f2 d.f3) d.f0 d.f1 d.f2 d.f3 keep=r):Calls Try.prog 38 #[.agg cs,.int .i64 keep] w (Pf w r):=hr▸ahR hd hs hl GO
theorem XZ (hd:eT cs d w) (hs:Small d.f0 d.f1 d.f2) (hl:∀x ∈ d.f0,x.f1.length≤1048576):Calls Try.prog 40 #[.agg cs,.string nm] w fun e w'=>∃A c,e = .returned (.tuple #[.slice A (oM (b8 d.f0 d.f1 d.f2 d.f3) d.f0 d.f1 nm).1.length c,.bool (oM (b8 d.f0 d.f1 d.f2 d.f3) d.f0 d.f1 nm).2])∧Rb w w' A c (oM (b8 d.f0 d.f1 d.f2 d.f3) d.f0 d.f1 nm).1:=by
 obtain⟨K,hk⟩:=an4 d.f0 d.f1 d.f2 d.f3 nm hs.h0 hl hs.h1 hs.h2 hs.z1 hs.z2;obtain⟨A0,c0,A1,c1,A2,c2,rfl,l0,g0,l1,g1,l2,g2⟩:=hd.open;refine(jM.calls K _ _ _ _ _ _ _ _ _ _ nm _ _ w g0 l0 g1 l1 g2 l2 (hk K (Nat.le_refl _))).mono (fun e w' ⟨v0,he,h0,hb⟩=>?_);obtain⟨A,c,rfl,r⟩:=aoQ h0 hb;exact⟨A,c,he,r⟩
theorem Kp {l:List Int} {b:Bool} (hd:eT cs d w) (hs:Small d.f0 d.f1 d.f2) (hl:∀x ∈ d.f0,x.f1.length≤1048576) (he:oM (b8 d.f0 d.f1 d.f2 d.f3) d.f0 d.f1 nm=(l,b)):Calls Try.prog 40 #[.agg cs,.string nm] w fun e w'=>∃A c,e = .returned (.tuple #[.slice A l.length c,.bool b])∧Rb w w' A c l:=by
 have h:=XZ (nm:=nm) hd hs hl;rw[he]at h;exact h
theorem PU (hd:eT cs d w) (hs:Small d.f0 d.f1 d.f2) (hl:∀x ∈ d.f0,x.f1.length≤1048576):Calls Try.prog 37 #[.agg cs] w fun e w'=>∃A c,e = .returned (.slice A (Bi (b8 d.f0 d.f1 d.f2 d.f3) d.f1).length c)∧Below w.heap.size w w':=by
 obtain⟨K,hk⟩:=an7 d.f0 d.f1 d.f2 d.f3 hs.h0 hl hs.h1 hs.h2 hs.z1 hs.z2;obtain⟨A0,c0,A1,c1,A2,c2,rfl,l0,g0,l1,g1,l2,g2⟩:=hd.open;refine(pj.calls K _ _ _ _ _ _ _ _ _ _ _ w g0 l0 g1 l1 g2 l2 (hk K (Nat.le_refl _))).mono (fun e w' ⟨v0,he,h0,hb⟩=>?_);obtain⟨A,c,rfl⟩:=Kd.bL h0;exact⟨A,c,he,hb⟩
theorem ahP (hd:eT cs d w) (hs:Small d.f0 d.f1 d.f2):Calls Try.prog 42 #[.agg cs] w fun e w'=>e = .returned (.bool (b8 d.f0 d.f1 d.f2 d.f3))∧Below w.heap.size w w':=by
 obtain⟨K,hk⟩:=hs.impl d.f3;obtain⟨A0,c0,A1,c1,A2,c2,rfl,l0,g0,l1,g1,l2,g2⟩:=hd.open;exact bV.calls K _ _ _ _ _ _ _ _ _ _ _ w g0 l0 g1 l1 g2 l2 (hk K (Nat.le_refl _))
end
end Go.Proofs.Ytgpkdbnikcghgaa.MD
