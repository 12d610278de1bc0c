/- What the law FnExactPairOk says of plain values: its Pure; and that its parameters are read as such values. Written by mp.py. -/
import Derived.Test.YtjpemgjnpbipnaaMFnExactPairOkx1
import Derived.Test.YtjpemgjnpbipnaaMOpens
namespace Go.Proofs.Ytjpemgjnpbipnaa.MFnExactPairOk
open Go.RowKit Go.Proofs.YtjpemgjnpbipnaaW.PrintWords Go.Proofs.YtjpemgjnpbipnaaW.PrintLast Go.Proofs.YtjpemgjnpbipnaaW.PrintMore Go.Proofs.Ytjpemgjnpbipnaa.MOpens
set_option linter.unusedVariables false
def W39 (x : S39) : Prop := x.f0.size ≤ maxLen ∧ x.f1.size ≤ maxLen ∧ True
set_option maxRecDepth 100000 in
theorem opens39 : Opens Try.prog 39 k39 W39 := Opens.iso (fun x : S39 => (x.f0, x.f1, x.f2)) (fun a => (⟨a.1, a.2.1, a.2.2⟩ : S39)) (Opens.struct Try.underlying39 (by kernel_rfl) (OpensF.cons rfl (by kernel_rfl) (Opens.string Try.underlying9) (OpensF.cons rfl (by kernel_rfl) (Opens.string Try.underlying9) (OpensF.last rfl (by kernel_rfl) (Opens.bool Try.underlying4)) rfl) rfl)) (fun _ => rfl) (fun _ h => h)
/-- THE ONE PURE STATEMENT of laws_FnExactPairOk. -/
def laws_FnExactPairOk.Pure : Prop := ∀ (x0 : S39), W39 x0 → laws_FnExactPairOk.f x0.f0 x0.f1 x0.f2 = some true
end Go.Proofs.Ytjpemgjnpbipnaa.MFnExactPairOk
