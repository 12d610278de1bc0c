/- What the law FnExactFilter says of plain values: its Pure; and that its parameters are read as such values. Written by mp.py. -/
import Derived.Test.YtgncojbnejdplaaMFnExactFilterx3
import Derived.Test.YtgncojbnejdplaaMOpens
namespace Go.Proofs.Ytgncojbnejdplaa.MFnExactFilter
open Go.RowKit Go.Proofs.YtgncojbnejdplaaW.PrintWords Go.Proofs.YtgncojbnejdplaaW.PrintLast Go.Proofs.YtgncojbnejdplaaW.PrintMore Go.Proofs.Ytgncojbnejdplaa.MOpens
set_option linter.unusedVariables false
/-- THE ONE PURE STATEMENT of laws_FnExactFilter. -/
def laws_FnExactFilter.Pure : Prop := ∀ (x0 : List ByteArray), (x0.length ≤ maxLen ∧ ∀ y0_ ∈ x0, y0_.size ≤ maxLen) → ∃ k, laws_FnExactFilter.f k x0 = some true
end Go.Proofs.Ytgncojbnejdplaa.MFnExactFilter
