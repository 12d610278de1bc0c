/- What the law FnExactMerge says of plain values: its Pure; and that its parameters are read as such values. Written by mp.py. -/
import Derived.Test.YtbepbgfkajnlbaaMFnExactMergex10
import Derived.Test.YtbepbgfkajnlbaaVMOpens
namespace Go.Proofs.Ytbepbgfkajnlbaa.MFnExactMerge
open Go.RowKit Go.Proofs.YtbepbgfkajnlbaaW.PrintWords Go.Proofs.YtbepbgfkajnlbaaW.PrintLast Go.Proofs.YtbepbgfkajnlbaaW.PrintMore Go.Proofs.Ytbepbgfkajnlbaa.MOpens
set_option linter.unusedVariables false
def W84 (x : S84) : Prop := x.f0.size ≤ maxLen ∧ x.f1.size ≤ maxLen ∧ True
set_option maxRecDepth 100000 in
theorem opens84 : Opens Try.prog 84 k84 W84 := Opens.iso (fun x : S84 => (x.f0, x.f1, x.f2)) (fun a => (⟨a.1, a.2.1, a.2.2⟩ : S84)) (Opens.struct Try.underlying84 (by kernel_rfl) (OpensF.cons rfl (by kernel_rfl) (Opens.string Try.underlying9) (OpensF.cons rfl (by kernel_rfl) (Opens.string Try.underlying9) (OpensF.last rfl (by kernel_rfl) (Opens.bool Try.underlying4)) rfl) rfl)) (fun _ => rfl) (fun _ h => h)
/-- THE ONE PURE STATEMENT of laws_FnExactMerge. -/
def laws_FnExactMerge.Pure : Prop := ∀ (x0 : List (List (S84))) (x1 : Bool), (x0.length ≤ maxLen ∧ ∀ y0_ ∈ x0, (y0_.length ≤ maxLen ∧ ∀ y1_ ∈ y0_, W84 y1_)) → ∃ k, laws_FnExactMerge.f k x0 x1 = some true
end Go.Proofs.Ytbepbgfkajnlbaa.MFnExactMerge
