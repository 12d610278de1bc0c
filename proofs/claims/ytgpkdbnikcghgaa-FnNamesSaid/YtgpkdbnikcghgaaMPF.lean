/- What FnFiles says of disks in plain lists: a file that was made, written and made sure. -/
import Derived.Test.YtgpkdbnikcghgaaMPR
set_option linter.unusedVariables false
set_option linter.unusedSimpArgs false
namespace Go.Proofs.Ytgpkdbnikcghgaa.MPD
open Go.RowKit Go.Proofs.Ytgpkdbnikcghgaa.MD Go.Proofs.YtgpkdbnikcghgaaW.PrintWords Go.Proofs.YtgpkdbnikcghgaaW.PrintLast Go.Proofs.YtgpkdbnikcghgaaW.PrintMore
def MY (r:List eE × List gV × List gV × Int):nw:=⟨r.1,r.2.1,r.2.2.1,r.2.2.2⟩
structure Own (nm:ByteArray) (e:gV) (bd:List Int) (s:Int) (m:Nat) (d:nw):Prop where
 ok:sO d
 he:e ∈ d.f1
 hn:e.f0=nm
 hx:∃x ∈ d.f0,x.f0=e.f1∧x.f1=bd∧x.f2=s
 tt:gU d.f0≤m
section
variable {nm:ByteArray} {e:gV} {bd b:List Int} {s:Int} {m:Nat} {d:nw}
end
def own:ByteArray:=⟨#[111,119,110]⟩
end Go.Proofs.Ytgpkdbnikcghgaa.MPD
