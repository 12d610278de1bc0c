/- What the law FnExactGraphOk says of plain values: its Pure; and that its parameters are read as such values. Written by mp.py. -/
import Derived.Test.YtbepbgfkajnlbaaMFnExactGraphOkx9
import Derived.Test.YtbepbgfkajnlbaaVMOpens
namespace Go.Proofs.Ytbepbgfkajnlbaa.MFnExactGraphOk
open Go.RowKit Go.Proofs.YtbepbgfkajnlbaaW.PrintWords Go.Proofs.YtbepbgfkajnlbaaW.PrintLast Go.Proofs.YtbepbgfkajnlbaaW.PrintMore Go.Proofs.Ytbepbgfkajnlbaa.MOpens
set_option linter.unusedVariables false
def W171 (x : S171) : Prop := (Lit.int .i64 x.f0).wf = true ∧ (Lit.int .i64 x.f1).wf = true
set_option maxRecDepth 100000 in
theorem opens171 : Opens Try.prog 171 k171 W171 := Opens.iso (fun x : S171 => (x.f0, x.f1)) (fun a => (⟨a.1, a.2⟩ : S171)) (Opens.struct Try.underlying171 (by kernel_rfl) (OpensF.cons rfl (by kernel_rfl) (Opens.int Try.underlying3) (OpensF.last rfl (by kernel_rfl) (Opens.int Try.underlying3)) rfl)) (fun _ => rfl) (fun _ h => h)
def W174 (x : S174) : Prop := W171 x.f0 ∧ (x.f1.length ≤ maxLen ∧ ∀ y0_ ∈ x.f1, W171 y0_)
set_option maxRecDepth 100000 in
theorem opens174 : Opens Try.prog 174 k174 W174 := Opens.iso (fun x : S174 => (x.f0, x.f1)) (fun a => (⟨a.1, a.2⟩ : S174)) (Opens.struct Try.underlying174 (by kernel_rfl) (OpensF.cons rfl (by kernel_rfl) opens171 (OpensF.last rfl (by kernel_rfl) (Opens.slice Try.underlying172 (by kernel_rfl) opens171)) rfl)) (fun _ => rfl) (fun _ h => h)
def W45 (x : S45) : Prop := (x.f0.length ≤ maxLen ∧ ∀ y0_ ∈ x.f0, W174 y0_)
set_option maxRecDepth 100000 in
theorem opens45 : Opens Try.prog 45 k45 W45 := Opens.iso (fun x : S45 => x.f0) (fun a => (⟨a⟩ : S45)) (Opens.struct Try.underlying45 (by kernel_rfl) (OpensF.last rfl (by kernel_rfl) (Opens.slice Try.underlying43 (by kernel_rfl) opens174))) (fun _ => rfl) (fun _ h => h)
/-- THE ONE PURE STATEMENT of laws_FnExactGraphOk. -/
def laws_FnExactGraphOk.Pure : Prop := ∀ (x0 : S45), W45 x0 → ∃ k, laws_FnExactGraphOk.f k x0.f0 = some true
end Go.Proofs.Ytbepbgfkajnlbaa.MFnExactGraphOk
