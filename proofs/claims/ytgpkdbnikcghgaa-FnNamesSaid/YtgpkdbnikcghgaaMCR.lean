/- The program's Rename and Remove by contract. -/
import Derived.Test.YtgpkdbnikcghgaaMPD2
import Derived.Test.YtgpkdbnikcghgaaMC
import Derived.Test.YtgpkdbnikcghgaaMPH
namespace Go.Proofs.Ytgpkdbnikcghgaa.MD
open Go.RowKit Go.Proofs.YtgpkdbnikcghgaaW.PrintWords Go.Proofs.YtgpkdbnikcghgaaW.PrintLast Go.Proofs.YtgpkdbnikcghgaaW.PrintMore Go.Proofs.Ytgpkdbnikcghgaa.MWords Go.Proofs.Ytgpkdbnikcghgaa.MPD
set_option linter.unusedVariables false
section
variable {w:World} {cs:Array Value} {d:Dk} {nm:ByteArray}
theorem ahS (hd:eT cs d w) (hs:Small d.f0 d.f1 d.f2) (hn:nm.size≤9223372036854775807):Calls Try.prog 29 #[.agg cs,.string nm] w (Pd w (sm d.f0 d.f1 d.f2 d.f3 nm)):=by
 obtain⟨K,hk⟩:=an8 d.f0 d.f1 d.f2 d.f3 nm hn hs;obtain⟨A0,c0,A1,c1,A2,c2,rfl,l0,g0,l1,g1,l2,g2⟩:=hd.open;exact(Ir.calls K _ _ _ _ _ _ _ _ _ _ _ _ _ _ _ _ w g0 l0 g1 l1 g2 l2 (hk K (Nat.le_refl _))).mono (fun e w' ⟨v0,v1,v2,he,h0,h1,h2,hb⟩=>⟨_,he,Uh h0 h1 h2 hb⟩)
theorem ahU {nq:ByteArray} (hd:eT cs d w) (hs:Small d.f0 d.f1 d.f2) (hn:nm.size≤9223372036854775807) (ht:nq.size≤9223372036854775807):Calls Try.prog 15 #[.agg cs,.string nm,.string nq] w (Pd w (rz d.f0 d.f1 d.f2 d.f3 nm nq)):=by
 obtain⟨K,hk⟩:=an9 d.f0 d.f1 d.f2 d.f3 nm nq hn ht hs;obtain⟨A0,c0,A1,c1,A2,c2,rfl,l0,g0,l1,g1,l2,g2⟩:=hd.open;exact(Is.calls K _ _ _ _ _ _ _ _ _ _ _ _ _ _ _ _ _ w g0 l0 g1 l1 g2 l2 (hk K (Nat.le_refl _))).mono (fun e w' ⟨v0,v1,v2,he,h0,h1,h2,hb⟩=>⟨_,he,Uh h0 h1 h2 hb⟩)
theorem ahV {nq:ByteArray} {r:lH} (hr:rz d.f0 d.f1 d.f2 d.f3 nm nq=r) (hd:eT cs d w) (hs:Small d.f0 d.f1 d.f2) (hn:nm.size≤9223372036854775807) (ht:nq.size≤9223372036854775807):Calls Try.prog 15 #[.agg cs,.string nm,.string nq] w (Pd w r):=hr▸ahU hd hs hn ht
theorem ahT {r:lH} (hr:sm d.f0 d.f1 d.f2 d.f3 nm=r) (h0:r.2.2.2.2=0) (hd:eT cs d w) (hs:Small d.f0 d.f1 d.f2) (hn:nm.size≤9223372036854775807):Calls Try.prog 29 #[.agg cs,.string nm] w (fun e w'=>∃cs',e = .returned (.tuple #[.agg cs',.int .i64 0])∧Rs w w' cs' (hU r)):=
 (ahS hd hs hn).mono (fun e w' ⟨c,he,h⟩=>by
  rw[hr]at he h;rw[h0]at he;exact⟨c,he,h⟩)
theorem X1 {m:Nat} (h:(Bi (b8 d.f0 d.f1 d.f2 d.f3) d.f1).length=m) (hd:eT cs d w) (hs:Small d.f0 d.f1 d.f2) (hl:∀x ∈ d.f0,x.f1.length≤1048576):Calls Try.prog 37 #[.agg cs] w fun e w'=>∃A c,e = .returned (.slice A m c)∧Below w.heap.size w w':=h▸PU hd hs hl
theorem ahQ (h:sO d) (hd:eT cs d w):Calls Try.prog 42 #[.agg cs] w fun e w'=>e = .returned (.bool true)∧Below w.heap.size w w':=xh.2 h▸ahP hd h.small.1
end
end Go.Proofs.Ytgpkdbnikcghgaa.MD
