/- What the law FnExactSync says of plain values: its Pure; and that its parameters are read as such values. Written by mp.py. -/
import Derived.Test.YtgpkdbnikcghgaaMDx58
import Derived.Test.YtgpkdbnikcghgaaVMOpens
namespace Go.Proofs.Ytgpkdbnikcghgaa.MD
open Go.RowKit Go.Proofs.YtgpkdbnikcghgaaW.PrintWords Go.Proofs.YtgpkdbnikcghgaaW.PrintLast Go.Proofs.YtgpkdbnikcghgaaW.PrintMore Go.Proofs.Ytgpkdbnikcghgaa.MOpens
set_option linter.unusedVariables false
def W93 (x : S93) : Prop := (Lit.int .i64 x.f0).wf = true ∧ (x.f1.length ≤ maxLen ∧ ∀ y0_ ∈ x.f1, (Lit.int .u8 y0_).wf = true) ∧ (Lit.int .i64 x.f2).wf = true
set_option maxRecDepth 100000 in
theorem opens93 : Opens Try.prog 93 k93 W93 := Opens.iso (fun x : S93 => (x.f0, x.f1, x.f2)) (fun a => (⟨a.1, a.2.1, a.2.2⟩ : S93)) (Opens.struct Try.underlying93 (by kernel_rfl) (OpensF.cons rfl (by kernel_rfl) (Opens.int Try.underlying3) (OpensF.cons rfl (by kernel_rfl) (Opens.slice Try.underlying41 (by kernel_rfl) (Opens.int Try.underlying5)) (OpensF.last rfl (by kernel_rfl) (Opens.int Try.underlying3)) rfl) rfl)) (fun _ => rfl) (fun _ h => h)
def W95 (x : S95) : Prop := x.f0.size ≤ maxLen ∧ (Lit.int .i64 x.f1).wf = true
set_option maxRecDepth 100000 in
theorem opens95 : Opens Try.prog 95 k95 W95 := Opens.iso (fun x : S95 => (x.f0, x.f1)) (fun a => (⟨a.1, a.2⟩ : S95)) (Opens.struct Try.underlying95 (by kernel_rfl) (OpensF.cons rfl (by kernel_rfl) (Opens.string Try.underlying9) (OpensF.last rfl (by kernel_rfl) (Opens.int Try.underlying3)) rfl)) (fun _ => rfl) (fun _ h => h)
def W25 (x : S25) : Prop := (x.f0.length ≤ maxLen ∧ ∀ y0_ ∈ x.f0, W93 y0_) ∧ (x.f1.length ≤ maxLen ∧ ∀ y0_ ∈ x.f1, W95 y0_) ∧ (x.f2.length ≤ maxLen ∧ ∀ y0_ ∈ x.f2, W95 y0_) ∧ (Lit.int .i64 x.f3).wf = true
set_option maxRecDepth 100000 in
theorem opens25 : Opens Try.prog 25 k25 W25 := Opens.iso (fun x : S25 => (x.f0, x.f1, x.f2, x.f3)) (fun a => (⟨a.1, a.2.1, a.2.2.1, a.2.2.2⟩ : S25)) (Opens.struct Try.underlying25 (by kernel_rfl) (OpensF.cons rfl (by kernel_rfl) (Opens.slice Try.underlying22 (by kernel_rfl) opens93) (OpensF.cons rfl (by kernel_rfl) (Opens.slice Try.underlying23 (by kernel_rfl) opens95) (OpensF.cons rfl (by kernel_rfl) (Opens.slice Try.underlying23 (by kernel_rfl) opens95) (OpensF.last rfl (by kernel_rfl) (Opens.int Try.underlying3)) rfl) rfl) rfl)) (fun _ => rfl) (fun _ h => h)
/-- THE ONE PURE STATEMENT of laws_FnExactSync. -/
def laws_FnExactSync.Pure : Prop := ∀ (x0 : S25) (x1 : ByteArray), W25 x0 → x1.size ≤ 140737488351232 → ∃ k, laws_FnExactSync.f k x0.f0 x0.f1 x0.f2 x0.f3 x1 = some true
end Go.Proofs.Ytgpkdbnikcghgaa.MD
