/- What the law FnExactPutText says of plain values: its Pure; and that its parameters are read as such values. Written by mp.py. -/
import Derived.Test.YtgncojbnejdplaaMFnExactPutTextx2
import Derived.Test.YtgncojbnejdplaaMOpens
namespace Go.Proofs.Ytgncojbnejdplaa.MFnExactPutText
open Go.RowKit Go.Proofs.YtgncojbnejdplaaW.PrintWords Go.Proofs.YtgncojbnejdplaaW.PrintLast Go.Proofs.YtgncojbnejdplaaW.PrintMore Go.Proofs.Ytgncojbnejdplaa.MOpens
set_option linter.unusedVariables false
/-- THE ONE PURE STATEMENT of laws_FnExactPutText. -/
def laws_FnExactPutText.Pure : Prop := ∀ (x0 : List Int) (x1 : ByteArray), (x0.length ≤ maxLen ∧ ∀ y0_ ∈ x0, (Lit.int .u8 y0_).wf = true) → x1.size ≤ 140737488351232 → ∃ k, laws_FnExactPutText.f k x0 x1 = some true
end Go.Proofs.Ytgncojbnejdplaa.MFnExactPutText
