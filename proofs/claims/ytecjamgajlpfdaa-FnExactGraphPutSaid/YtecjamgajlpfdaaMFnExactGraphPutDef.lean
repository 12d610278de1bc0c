/- What the law FnExactGraphPut says of plain values: its Pure; and that its parameters are read as such values. Written by mp.py. -/
import Derived.Test.YtecjamgajlpfdaaMFnExactGraphPutx15
import Derived.Test.YtecjamgajlpfdaaVMOpens
namespace Go.Proofs.Ytecjamgajlpfdaa.MFnExactGraphPut
open Go.RowKit Go.Proofs.YtecjamgajlpfdaaW.PrintWords Go.Proofs.YtecjamgajlpfdaaW.PrintLast Go.Proofs.YtecjamgajlpfdaaW.PrintMore Go.Proofs.Ytecjamgajlpfdaa.MOpens
set_option linter.unusedVariables false
def W44 (x : S44) : Prop := (Lit.int .i64 x.f0).wf = true ∧ (Lit.int .i64 x.f1).wf = true
set_option maxRecDepth 100000 in
theorem opens44 : Opens Try.prog 44 k44 W44 := Opens.iso (fun x : S44 => (x.f0, x.f1)) (fun a => (⟨a.1, a.2⟩ : S44)) (Opens.struct Try.underlying44 (by kernel_rfl) (OpensF.cons rfl (by kernel_rfl) (Opens.int Try.underlying3) (OpensF.last rfl (by kernel_rfl) (Opens.int Try.underlying3)) rfl)) (fun _ => rfl) (fun _ h => h)
def W47 (x : S47) : Prop := W44 x.f0 ∧ (x.f1.length ≤ maxLen ∧ ∀ y0_ ∈ x.f1, W44 y0_)
set_option maxRecDepth 100000 in
theorem opens47 : Opens Try.prog 47 k47 W47 := Opens.iso (fun x : S47 => (x.f0, x.f1)) (fun a => (⟨a.1, a.2⟩ : S47)) (Opens.struct Try.underlying47 (by kernel_rfl) (OpensF.cons rfl (by kernel_rfl) opens44 (OpensF.last rfl (by kernel_rfl) (Opens.slice Try.underlying45 (by kernel_rfl) opens44)) rfl)) (fun _ => rfl) (fun _ h => h)
def W42 (x : S42) : Prop := (x.f0.length ≤ maxLen ∧ ∀ y0_ ∈ x.f0, W47 y0_)
set_option maxRecDepth 100000 in
theorem opens42 : Opens Try.prog 42 k42 W42 := Opens.iso (fun x : S42 => x.f0) (fun a => (⟨a⟩ : S42)) (Opens.struct Try.underlying42 (by kernel_rfl) (OpensF.last rfl (by kernel_rfl) (Opens.slice Try.underlying40 (by kernel_rfl) opens47))) (fun _ => rfl) (fun _ h => h)
/-- THE ONE PURE STATEMENT of laws_FnExactGraphPut. -/
def laws_FnExactGraphPut.Pure : Prop := ∀ (x0 : S42) (x1 : S47), W42 x0 → W47 x1 → ∃ k, laws_FnExactGraphPut.f k x0.f0 x1.f0.f0 x1.f0.f1 x1.f1 = some true
end Go.Proofs.Ytecjamgajlpfdaa.MFnExactGraphPut
