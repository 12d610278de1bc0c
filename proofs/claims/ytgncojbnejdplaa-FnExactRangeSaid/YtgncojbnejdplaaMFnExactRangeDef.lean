/- What the law FnExactRange says of plain values: its Pure; and that its parameters are read as such values. Written by mp.py. -/
import Derived.Test.YtgncojbnejdplaaMFnExactRangex4
import Derived.Test.YtgncojbnejdplaaMOpens
namespace Go.Proofs.Ytgncojbnejdplaa.MFnExactRange
open Go.RowKit Go.Proofs.YtgncojbnejdplaaW.PrintWords Go.Proofs.YtgncojbnejdplaaW.PrintLast Go.Proofs.YtgncojbnejdplaaW.PrintMore Go.Proofs.Ytgncojbnejdplaa.MOpens
set_option linter.unusedVariables false
def W111 (x : S111) : Prop := x.f0.size ≤ maxLen ∧ x.f1.size ≤ maxLen ∧ True
set_option maxRecDepth 100000 in
theorem opens111 : Opens Try.prog 111 k111 W111 := Opens.iso (fun x : S111 => (x.f0, x.f1, x.f2)) (fun a => (⟨a.1, a.2.1, a.2.2⟩ : S111)) (Opens.struct Try.underlying111 (by kernel_rfl) (OpensF.cons rfl (by kernel_rfl) (Opens.string Try.underlying9) (OpensF.cons rfl (by kernel_rfl) (Opens.string Try.underlying9) (OpensF.last rfl (by kernel_rfl) (Opens.bool Try.underlying4)) rfl) rfl)) (fun _ => rfl) (fun _ h => h)
/-- THE ONE PURE STATEMENT of laws_FnExactRange. -/
def laws_FnExactRange.Pure : Prop := ∀ (x0 : List (S111)) (x1 : ByteArray) (x2 : ByteArray), (x0.length ≤ maxLen ∧ ∀ y0_ ∈ x0, W111 y0_) → x1.size ≤ 140737488351232 → x2.size ≤ 140737488351232 → ∃ k, laws_FnExactRange.f k x0 x1 x2 = some true
end Go.Proofs.Ytgncojbnejdplaa.MFnExactRange
