/- What the law FnExactOrderOf says of plain values: its Pure; and that its parameters are read as such values. Written by mp.py. -/
import Derived.Test.YtgbejjeephipeaaMFnExactOrderOfx18
import Derived.Test.YtgbejjeephipeaaVMOpens
namespace Go.Proofs.Ytgbejjeephipeaa.MFnExactOrderOf
open Go.RowKit Go.Proofs.YtgbejjeephipeaaW.PrintWords Go.Proofs.YtgbejjeephipeaaW.PrintLast Go.Proofs.YtgbejjeephipeaaW.PrintMore Go.Proofs.Ytgbejjeephipeaa.MOpens
set_option linter.unusedVariables false
def W41 (x : S41) : Prop := (Lit.int .i64 x.f0).wf = true ∧ (Lit.int .i64 x.f1).wf = true
set_option maxRecDepth 100000 in
theorem opens41 : Opens Try.prog 41 k41 W41 := Opens.iso (fun x : S41 => (x.f0, x.f1)) (fun a => (⟨a.1, a.2⟩ : S41)) (Opens.struct Try.underlying41 (by kernel_rfl) (OpensF.cons rfl (by kernel_rfl) (Opens.int Try.underlying3) (OpensF.last rfl (by kernel_rfl) (Opens.int Try.underlying3)) rfl)) (fun _ => rfl) (fun _ h => h)
def W44 (x : S44) : Prop := W41 x.f0 ∧ (x.f1.length ≤ maxLen ∧ ∀ y0_ ∈ x.f1, W41 y0_)
set_option maxRecDepth 100000 in
theorem opens44 : Opens Try.prog 44 k44 W44 := Opens.iso (fun x : S44 => (x.f0, x.f1)) (fun a => (⟨a.1, a.2⟩ : S44)) (Opens.struct Try.underlying44 (by kernel_rfl) (OpensF.cons rfl (by kernel_rfl) opens41 (OpensF.last rfl (by kernel_rfl) (Opens.slice Try.underlying42 (by kernel_rfl) opens41)) rfl)) (fun _ => rfl) (fun _ h => h)
def W40 (x : S40) : Prop := (x.f0.length ≤ maxLen ∧ ∀ y0_ ∈ x.f0, W44 y0_)
set_option maxRecDepth 100000 in
theorem opens40 : Opens Try.prog 40 k40 W40 := Opens.iso (fun x : S40 => x.f0) (fun a => (⟨a⟩ : S40)) (Opens.struct Try.underlying40 (by kernel_rfl) (OpensF.last rfl (by kernel_rfl) (Opens.slice Try.underlying38 (by kernel_rfl) opens44))) (fun _ => rfl) (fun _ h => h)
/-- THE ONE PURE STATEMENT of laws_FnExactOrderOf. -/
def laws_FnExactOrderOf.Pure : Prop := ∀ (x0 : S40), W40 x0 → ∃ k, laws_FnExactOrderOf.f k x0.f0 = some true
end Go.Proofs.Ytgbejjeephipeaa.MFnExactOrderOf
