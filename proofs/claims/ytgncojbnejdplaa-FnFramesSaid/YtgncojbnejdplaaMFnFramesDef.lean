/- What the law FnFrames says of plain values: its Pure; and that its parameters are read as such values. Written by mp.py. -/
import Derived.Test.YtgncojbnejdplaaMFnFramesx3
import Derived.Test.YtgncojbnejdplaaVMOpens
namespace Go.Proofs.Ytgncojbnejdplaa.MFnFrames
open Go.RowKit Go.Proofs.YtgncojbnejdplaaW.PrintWords Go.Proofs.YtgncojbnejdplaaW.PrintLast Go.Proofs.YtgncojbnejdplaaW.PrintMore Go.Proofs.Ytgncojbnejdplaa.MOpens
set_option linter.unusedVariables false
/-- THE ONE PURE STATEMENT of laws_FnFrames. -/
def laws_FnFrames.Pure : Prop := ∀ (x0 : List Int), (x0.length ≤ maxLen ∧ ∀ y0_ ∈ x0, (Lit.int .u8 y0_).wf = true) → ∃ k, laws_FnFrames.f k x0 = some true
end Go.Proofs.Ytgncojbnejdplaa.MFnFrames
