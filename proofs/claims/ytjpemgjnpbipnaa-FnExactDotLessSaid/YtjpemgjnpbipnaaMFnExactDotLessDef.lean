/- What the law FnExactDotLess says of plain values: its Pure; and that its parameters are read as such values. Written by mp.py. -/
import Derived.Test.YtjpemgjnpbipnaaMFnExactDotLessx1
import Derived.Test.YtjpemgjnpbipnaaMOpens
namespace Go.Proofs.Ytjpemgjnpbipnaa.MFnExactDotLess
open Go.RowKit Go.Proofs.YtjpemgjnpbipnaaW.PrintWords Go.Proofs.YtjpemgjnpbipnaaW.PrintLast Go.Proofs.YtjpemgjnpbipnaaW.PrintMore Go.Proofs.Ytjpemgjnpbipnaa.MOpens
set_option linter.unusedVariables false
def W24 (x : S24) : Prop := (Lit.int .i64 x.f0).wf = true ∧ (Lit.int .i64 x.f1).wf = true
set_option maxRecDepth 100000 in
theorem opens24 : Opens Try.prog 24 k24 W24 := Opens.iso (fun x : S24 => (x.f0, x.f1)) (fun a => (⟨a.1, a.2⟩ : S24)) (Opens.struct Try.underlying24 (by kernel_rfl) (OpensF.cons rfl (by kernel_rfl) (Opens.int Try.underlying3) (OpensF.last rfl (by kernel_rfl) (Opens.int Try.underlying3)) rfl)) (fun _ => rfl) (fun _ h => h)
/-- THE ONE PURE STATEMENT of laws_FnExactDotLess. -/
def laws_FnExactDotLess.Pure : Prop := ∀ (x0 : S24) (x1 : S24), W24 x0 → W24 x1 → laws_FnExactDotLess.f x0.f0 x0.f1 x1.f0 x1.f1 = some true
end Go.Proofs.Ytjpemgjnpbipnaa.MFnExactDotLess
