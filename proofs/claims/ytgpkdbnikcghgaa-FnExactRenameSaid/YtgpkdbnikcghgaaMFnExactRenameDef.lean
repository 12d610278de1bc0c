/- What the law FnExactRename says of plain values: its Pure; and that its parameters are read as such values. Written by mp.py. -/
import Derived.Test.YtgpkdbnikcghgaaMDx62
import Derived.Test.YtgpkdbnikcghgaaVMOpens
namespace Go.Proofs.Ytgpkdbnikcghgaa.MD
open Go.RowKit Go.Proofs.YtgpkdbnikcghgaaW.PrintWords Go.Proofs.YtgpkdbnikcghgaaW.PrintLast Go.Proofs.YtgpkdbnikcghgaaW.PrintMore Go.Proofs.Ytgpkdbnikcghgaa.MOpens
set_option linter.unusedVariables false
def FE (x:ib):Prop:=(Lit.int .i64 x.f0).wf=true∧(x.f1.length≤maxLen∧∀oa ∈ x.f1,(Lit.int .u8 oa).wf=true)∧(Lit.int .i64 x.f2).wf=true
set_option maxRecDepth 100000 in
theorem QG:dD Try.prog 93 zi FE:=dD.uz (fun x:ib=>(x.f0,x.f1,x.f2)) (fun a=>(⟨a.1,a.2.1,a.2.2⟩:ib)) (dD.struct Try.underlying93 (by kernel_rfl) (mh.cons rfl (by kernel_rfl) (dD.int Try.underlying3) (mh.cons rfl (by kernel_rfl) (dD.slice Try.underlying41 (by kernel_rfl) (dD.int Try.underlying5)) (mh.last rfl (by kernel_rfl) (dD.int Try.underlying3)) rfl) rfl)) (fun _=>rfl) (fun _ h=>h)
def Aa (x:eR):Prop:=x.f0.size≤maxLen∧(Lit.int .i64 x.f1).wf=true
set_option maxRecDepth 100000 in
theorem GY:dD Try.prog 95 sy Aa:=dD.uz (fun x:eR=>(x.f0,x.f1)) (fun a=>(⟨a.1,a.2⟩:eR)) (dD.struct Try.underlying95 (by kernel_rfl) (mh.cons rfl (by kernel_rfl) (dD.string Try.underlying9) (mh.last rfl (by kernel_rfl) (dD.int Try.underlying3)) rfl)) (fun _=>rfl) (fun _ h=>h)
def FD (x:pG):Prop:=(x.f0.length≤maxLen∧∀oa ∈ x.f0,FE oa)∧(x.f1.length≤maxLen∧∀oa ∈ x.f1,Aa oa)∧(x.f2.length≤maxLen∧∀oa ∈ x.f2,Aa oa)∧(Lit.int .i64 x.f3).wf=true
set_option maxRecDepth 100000 in
theorem QF:dD Try.prog 25 k25 FD:=dD.uz (fun x:pG=>(x.f0,x.f1,x.f2,x.f3)) (fun a=>(⟨a.1,a.2.1,a.2.2.1,a.2.2.2⟩:pG)) (dD.struct Try.underlying25 (by kernel_rfl) (mh.cons rfl (by kernel_rfl) (dD.slice Try.underlying22 (by kernel_rfl) QG) (mh.cons rfl (by kernel_rfl) (dD.slice Try.underlying23 (by kernel_rfl) GY) (mh.cons rfl (by kernel_rfl) (dD.slice Try.underlying23 (by kernel_rfl) GY) (mh.last rfl (by kernel_rfl) (dD.int Try.underlying3)) rfl) rfl) rfl)) (fun _=>rfl) (fun _ h=>h)
def iD.Pure:Prop:=∀(x0:pG) (x1:ByteArray) (x2:ByteArray),FD x0→x1.size≤140737488351232→x2.size≤140737488351232→∃k,iD.f k x0.f0 x0.f1 x0.f2 x0.f3 x1 x2=some true
end Go.Proofs.Ytgpkdbnikcghgaa.MD
