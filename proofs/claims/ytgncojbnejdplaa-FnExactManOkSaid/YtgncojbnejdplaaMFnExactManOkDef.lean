/- What the law FnExactManOk says of plain values: its Pure; and that its parameters are read as such values. Written by mp.py. -/
import Derived.Test.YtgncojbnejdplaaMFnExactManOkx6
import Derived.Test.YtgncojbnejdplaaMOpens
namespace Go.Proofs.Ytgncojbnejdplaa.MFnExactManOk
open Go.RowKit Go.Proofs.YtgncojbnejdplaaW.PrintWords Go.Proofs.YtgncojbnejdplaaW.PrintLast Go.Proofs.YtgncojbnejdplaaW.PrintMore Go.Proofs.Ytgncojbnejdplaa.MOpens
set_option linter.unusedVariables false
def W135 (x : S135) : Prop := (Lit.int .i64 x.f0).wf = true ∧ (Lit.int .i64 x.f1).wf = true ∧ x.f2.size ≤ maxLen ∧ x.f3.size ≤ maxLen
set_option maxRecDepth 100000 in
theorem opens135 : Opens Try.prog 135 k135 W135 := Opens.iso (fun x : S135 => (x.f0, x.f1, x.f2, x.f3)) (fun a => (⟨a.1, a.2.1, a.2.2.1, a.2.2.2⟩ : S135)) (Opens.struct Try.underlying135 (by kernel_rfl) (OpensF.cons rfl (by kernel_rfl) (Opens.int Try.underlying3) (OpensF.cons rfl (by kernel_rfl) (Opens.int Try.underlying3) (OpensF.cons rfl (by kernel_rfl) (Opens.string Try.underlying9) (OpensF.last rfl (by kernel_rfl) (Opens.string Try.underlying9)) rfl) rfl) rfl)) (fun _ => rfl) (fun _ h => h)
def W80 (x : S80) : Prop := (Lit.int .i64 x.f0).wf = true ∧ (Lit.int .i64 x.f1).wf = true ∧ (x.f2.length ≤ maxLen ∧ ∀ y0_ ∈ x.f2, W135 y0_)
set_option maxRecDepth 100000 in
theorem opens80 : Opens Try.prog 80 k80 W80 := Opens.iso (fun x : S80 => (x.f0, x.f1, x.f2)) (fun a => (⟨a.1, a.2.1, a.2.2⟩ : S80)) (Opens.struct Try.underlying80 (by kernel_rfl) (OpensF.cons rfl (by kernel_rfl) (Opens.int Try.underlying3) (OpensF.cons rfl (by kernel_rfl) (Opens.int Try.underlying3) (OpensF.last rfl (by kernel_rfl) (Opens.slice Try.underlying78 (by kernel_rfl) opens135)) rfl) rfl)) (fun _ => rfl) (fun _ h => h)
/-- THE ONE PURE STATEMENT of laws_FnExactManOk. -/
def laws_FnExactManOk.Pure : Prop := ∀ (x0 : S80), W80 x0 → ∃ k, laws_FnExactManOk.f k x0.f0 x0.f1 x0.f2 = some true
end Go.Proofs.Ytgncojbnejdplaa.MFnExactManOk
