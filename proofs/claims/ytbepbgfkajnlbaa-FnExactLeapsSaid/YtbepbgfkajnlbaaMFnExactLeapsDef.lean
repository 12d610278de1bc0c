/- What the law FnExactLeaps says of plain values: its Pure; and that its parameters are read as such values. Written by mp.py. -/
import Derived.Test.YtbepbgfkajnlbaaMFnExactLeapsx4
import Derived.Test.YtbepbgfkajnlbaaVMOpens
namespace Go.Proofs.Ytbepbgfkajnlbaa.MFnExactLeaps
open Go.RowKit Go.Proofs.YtbepbgfkajnlbaaW.PrintWords Go.Proofs.YtbepbgfkajnlbaaW.PrintLast Go.Proofs.YtbepbgfkajnlbaaW.PrintMore Go.Proofs.Ytbepbgfkajnlbaa.MOpens
set_option linter.unusedVariables false
def W84 (x : S84) : Prop := x.f0.size ≤ maxLen ∧ x.f1.size ≤ maxLen ∧ True
set_option maxRecDepth 100000 in
theorem opens84 : Opens Try.prog 84 k84 W84 := Opens.iso (fun x : S84 => (x.f0, x.f1, x.f2)) (fun a => (⟨a.1, a.2.1, a.2.2⟩ : S84)) (Opens.struct Try.underlying84 (by kernel_rfl) (OpensF.cons rfl (by kernel_rfl) (Opens.string Try.underlying9) (OpensF.cons rfl (by kernel_rfl) (Opens.string Try.underlying9) (OpensF.last rfl (by kernel_rfl) (Opens.bool Try.underlying4)) rfl) rfl)) (fun _ => rfl) (fun _ h => h)
def W191 (x : S191) : Prop := W84 x.f0 ∧ (Lit.int .i64 x.f1).wf = true
set_option maxRecDepth 100000 in
theorem opens191 : Opens Try.prog 191 k191 W191 := Opens.iso (fun x : S191 => (x.f0, x.f1)) (fun a => (⟨a.1, a.2⟩ : S191)) (Opens.struct Try.underlying191 (by kernel_rfl) (OpensF.cons rfl (by kernel_rfl) opens84 (OpensF.last rfl (by kernel_rfl) (Opens.int Try.underlying3)) rfl)) (fun _ => rfl) (fun _ h => h)
def W78 (x : S78) : Prop := (x.f0.length ≤ maxLen ∧ ∀ y0_ ∈ x.f0, W191 y0_)
set_option maxRecDepth 100000 in
theorem opens78 : Opens Try.prog 78 k78 W78 := Opens.iso (fun x : S78 => x.f0) (fun a => (⟨a⟩ : S78)) (Opens.struct Try.underlying78 (by kernel_rfl) (OpensF.last rfl (by kernel_rfl) (Opens.slice Try.underlying76 (by kernel_rfl) opens191))) (fun _ => rfl) (fun _ h => h)
/-- THE ONE PURE STATEMENT of laws_FnExactLeaps. -/
def laws_FnExactLeaps.Pure : Prop := ∀ (x0 : S78) (x1 : ByteArray), W78 x0 → x1.size ≤ 140737488351232 → ∃ k, laws_FnExactLeaps.f k x0.f0 x1 = some true
end Go.Proofs.Ytbepbgfkajnlbaa.MFnExactLeaps
