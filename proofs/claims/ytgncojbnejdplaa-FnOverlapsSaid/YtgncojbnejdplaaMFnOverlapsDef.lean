/- What the law FnOverlaps says of plain values: its Pure; and that its parameters are read as such values. Written by mp.py. -/
import Derived.Test.YtgncojbnejdplaaMFnOverlapsx5
import Derived.Test.YtgncojbnejdplaaVMOpens
namespace Go.Proofs.Ytgncojbnejdplaa.MFnOverlaps
open Go.RowKit Go.Proofs.YtgncojbnejdplaaW.PrintWords Go.Proofs.YtgncojbnejdplaaW.PrintLast Go.Proofs.YtgncojbnejdplaaW.PrintMore Go.Proofs.Ytgncojbnejdplaa.MOpens
set_option linter.unusedVariables false
/-- THE ONE PURE STATEMENT of laws_FnOverlaps. -/
def laws_FnOverlaps.Pure : Prop := ∀ (x0 : List Int), (x0.length ≤ maxLen ∧ ∀ y0_ ∈ x0, (Lit.int .u8 y0_).wf = true) → ∃ k, laws_FnOverlaps.f k x0 = some true
end Go.Proofs.Ytgncojbnejdplaa.MFnOverlaps
