/- What the law FnExactFall says of plain values: its Pure; and that its parameters are read as such values. Written by mp.py. -/
import Derived.Test.YtgbejjeephipeaaMFnExactFallx16
import Derived.Test.YtgbejjeephipeaaVMOpens
namespace Go.Proofs.Ytgbejjeephipeaa.MFnExactFall
open Go.RowKit Go.Proofs.YtgbejjeephipeaaW.PrintWords Go.Proofs.YtgbejjeephipeaaW.PrintLast Go.Proofs.YtgbejjeephipeaaW.PrintMore Go.Proofs.Ytgbejjeephipeaa.MOpens
set_option linter.unusedVariables false
def W144 (x : S144) : Prop := (Lit.int .i64 x.f0).wf = true ∧ (x.f1.length ≤ maxLen ∧ ∀ y0_ ∈ x.f1, (Lit.int .u8 y0_).wf = true) ∧ (Lit.int .i64 x.f2).wf = true
set_option maxRecDepth 100000 in
theorem opens144 : Opens Try.prog 144 k144 W144 := Opens.iso (fun x : S144 => (x.f0, x.f1, x.f2)) (fun a => (⟨a.1, a.2.1, a.2.2⟩ : S144)) (Opens.struct Try.underlying144 (by kernel_rfl) (OpensF.cons rfl (by kernel_rfl) (Opens.int Try.underlying3) (OpensF.cons rfl (by kernel_rfl) (Opens.slice Try.underlying22 (by kernel_rfl) (Opens.int Try.underlying5)) (OpensF.last rfl (by kernel_rfl) (Opens.int Try.underlying3)) rfl) rfl)) (fun _ => rfl) (fun _ h => h)
def W146 (x : S146) : Prop := x.f0.size ≤ maxLen ∧ (Lit.int .i64 x.f1).wf = true
set_option maxRecDepth 100000 in
theorem opens146 : Opens Try.prog 146 k146 W146 := Opens.iso (fun x : S146 => (x.f0, x.f1)) (fun a => (⟨a.1, a.2⟩ : S146)) (Opens.struct Try.underlying146 (by kernel_rfl) (OpensF.cons rfl (by kernel_rfl) (Opens.string Try.underlying9) (OpensF.last rfl (by kernel_rfl) (Opens.int Try.underlying3)) rfl)) (fun _ => rfl) (fun _ h => h)
def W71 (x : S71) : Prop := (x.f0.length ≤ maxLen ∧ ∀ y0_ ∈ x.f0, W144 y0_) ∧ (x.f1.length ≤ maxLen ∧ ∀ y0_ ∈ x.f1, W146 y0_) ∧ (x.f2.length ≤ maxLen ∧ ∀ y0_ ∈ x.f2, W146 y0_) ∧ (Lit.int .i64 x.f3).wf = true
set_option maxRecDepth 100000 in
theorem opens71 : Opens Try.prog 71 k71 W71 := Opens.iso (fun x : S71 => (x.f0, x.f1, x.f2, x.f3)) (fun a => (⟨a.1, a.2.1, a.2.2.1, a.2.2.2⟩ : S71)) (Opens.struct Try.underlying71 (by kernel_rfl) (OpensF.cons rfl (by kernel_rfl) (Opens.slice Try.underlying68 (by kernel_rfl) opens144) (OpensF.cons rfl (by kernel_rfl) (Opens.slice Try.underlying69 (by kernel_rfl) opens146) (OpensF.cons rfl (by kernel_rfl) (Opens.slice Try.underlying69 (by kernel_rfl) opens146) (OpensF.last rfl (by kernel_rfl) (Opens.int Try.underlying3)) rfl) rfl) rfl)) (fun _ => rfl) (fun _ h => h)
/-- THE ONE PURE STATEMENT of laws_FnExactFall. -/
def laws_FnExactFall.Pure : Prop := ∀ (x0 : S71) (x1 : Int), W71 x0 → (Lit.int .i64 x1).wf = true → ∃ k, laws_FnExactFall.f k x0.f0 x0.f1 x0.f2 x0.f3 x1 = some true
end Go.Proofs.Ytgbejjeephipeaa.MFnExactFall
