/- What the law FnExactMemGet says of plain values: its Pure; and that its parameters are read as such values. Written by mp.py. -/
import Derived.Test.YtgncojbnejdplaaMFnExactMemGetx3
import Derived.Test.YtgncojbnejdplaaMOpens
namespace Go.Proofs.Ytgncojbnejdplaa.MFnExactMemGet
open Go.RowKit Go.Proofs.YtgncojbnejdplaaW.PrintWords Go.Proofs.YtgncojbnejdplaaW.PrintLast Go.Proofs.YtgncojbnejdplaaW.PrintMore Go.Proofs.Ytgncojbnejdplaa.MOpens
set_option linter.unusedVariables false
def W111 (x : S111) : Prop := x.f0.size ≤ maxLen ∧ x.f1.size ≤ maxLen ∧ True
set_option maxRecDepth 100000 in
theorem opens111 : Opens Try.prog 111 k111 W111 := Opens.iso (fun x : S111 => (x.f0, x.f1, x.f2)) (fun a => (⟨a.1, a.2.1, a.2.2⟩ : S111)) (Opens.struct Try.underlying111 (by kernel_rfl) (OpensF.cons rfl (by kernel_rfl) (Opens.string Try.underlying9) (OpensF.cons rfl (by kernel_rfl) (Opens.string Try.underlying9) (OpensF.last rfl (by kernel_rfl) (Opens.bool Try.underlying4)) rfl) rfl)) (fun _ => rfl) (fun _ h => h)
def W130 (x : S130) : Prop := W111 x.f0 ∧ (Lit.int .i64 x.f1).wf = true
set_option maxRecDepth 100000 in
theorem opens130 : Opens Try.prog 130 k130 W130 := Opens.iso (fun x : S130 => (x.f0, x.f1)) (fun a => (⟨a.1, a.2⟩ : S130)) (Opens.struct Try.underlying130 (by kernel_rfl) (OpensF.cons rfl (by kernel_rfl) opens111 (OpensF.last rfl (by kernel_rfl) (Opens.int Try.underlying3)) rfl)) (fun _ => rfl) (fun _ h => h)
def W49 (x : S49) : Prop := (x.f0.length ≤ maxLen ∧ ∀ y0_ ∈ x.f0, W130 y0_)
set_option maxRecDepth 100000 in
theorem opens49 : Opens Try.prog 49 k49 W49 := Opens.iso (fun x : S49 => x.f0) (fun a => (⟨a⟩ : S49)) (Opens.struct Try.underlying49 (by kernel_rfl) (OpensF.last rfl (by kernel_rfl) (Opens.slice Try.underlying47 (by kernel_rfl) opens130))) (fun _ => rfl) (fun _ h => h)
/-- THE ONE PURE STATEMENT of laws_FnExactMemGet. -/
def laws_FnExactMemGet.Pure : Prop := ∀ (x0 : S49) (x1 : ByteArray), W49 x0 → x1.size ≤ 140737488351232 → ∃ k, laws_FnExactMemGet.f k x0.f0 x1 = some true
end Go.Proofs.Ytgncojbnejdplaa.MFnExactMemGet
