/- What the law FnExactOverlap says of plain values: its Pure; and that its parameters are read as such values. Written by mp.py. -/
import Derived.Test.YtbepbgfkajnlbaaMFnExactOverlapx4
import Derived.Test.YtbepbgfkajnlbaaVMOpens
namespace Go.Proofs.Ytbepbgfkajnlbaa.MFnExactOverlap
open Go.RowKit Go.Proofs.YtbepbgfkajnlbaaW.PrintWords Go.Proofs.YtbepbgfkajnlbaaW.PrintLast Go.Proofs.YtbepbgfkajnlbaaW.PrintMore Go.Proofs.Ytbepbgfkajnlbaa.MOpens
set_option linter.unusedVariables false
def W179 (x : S179) : Prop := (Lit.int .i64 x.f0).wf = true ∧ (Lit.int .i64 x.f1).wf = true ∧ x.f2.size ≤ maxLen ∧ x.f3.size ≤ maxLen
set_option maxRecDepth 100000 in
theorem opens179 : Opens Try.prog 179 k179 W179 := Opens.iso (fun x : S179 => (x.f0, x.f1, x.f2, x.f3)) (fun a => (⟨a.1, a.2.1, a.2.2.1, a.2.2.2⟩ : S179)) (Opens.struct Try.underlying179 (by kernel_rfl) (OpensF.cons rfl (by kernel_rfl) (Opens.int Try.underlying3) (OpensF.cons rfl (by kernel_rfl) (Opens.int Try.underlying3) (OpensF.cons rfl (by kernel_rfl) (Opens.string Try.underlying9) (OpensF.last rfl (by kernel_rfl) (Opens.string Try.underlying9)) rfl) rfl) rfl)) (fun _ => rfl) (fun _ h => h)
def W56 (x : S56) : Prop := (Lit.int .i64 x.f0).wf = true ∧ (Lit.int .i64 x.f1).wf = true ∧ (x.f2.length ≤ maxLen ∧ ∀ y0_ ∈ x.f2, W179 y0_)
set_option maxRecDepth 100000 in
theorem opens56 : Opens Try.prog 56 k56 W56 := Opens.iso (fun x : S56 => (x.f0, x.f1, x.f2)) (fun a => (⟨a.1, a.2.1, a.2.2⟩ : S56)) (Opens.struct Try.underlying56 (by kernel_rfl) (OpensF.cons rfl (by kernel_rfl) (Opens.int Try.underlying3) (OpensF.cons rfl (by kernel_rfl) (Opens.int Try.underlying3) (OpensF.last rfl (by kernel_rfl) (Opens.slice Try.underlying54 (by kernel_rfl) opens179)) rfl) rfl)) (fun _ => rfl) (fun _ h => h)
/-- THE ONE PURE STATEMENT of laws_FnExactOverlap. -/
def laws_FnExactOverlap.Pure : Prop := ∀ (x0 : S56) (x1 : Int) (x2 : ByteArray) (x3 : ByteArray), W56 x0 → (Lit.int .i64 x1).wf = true → x2.size ≤ 140737488351232 → x3.size ≤ 140737488351232 → ∃ k, laws_FnExactOverlap.f k x0.f0 x0.f1 x0.f2 x1 x2 x3 = some true
end Go.Proofs.Ytbepbgfkajnlbaa.MFnExactOverlap
