/- What the law FnExactSum says of plain values: its Pure; and that its parameters are read as such values. Written by mp.py. -/
import Derived.Test.YtjpemgjnpbipnaaMFnExactSumx1
import Derived.Test.YtjpemgjnpbipnaaMOpens
namespace Go.Proofs.Ytjpemgjnpbipnaa.MFnExactSum
open Go.RowKit Go.Proofs.YtjpemgjnpbipnaaW.PrintWords Go.Proofs.YtjpemgjnpbipnaaW.PrintLast Go.Proofs.YtjpemgjnpbipnaaW.PrintMore Go.Proofs.Ytjpemgjnpbipnaa.MOpens
set_option linter.unusedVariables false
/-- THE ONE PURE STATEMENT of laws_FnExactSum. -/
def laws_FnExactSum.Pure : Prop := ∀ (x0 : List Int), (x0.length ≤ maxLen ∧ ∀ y0_ ∈ x0, (Lit.int .u8 y0_).wf = true) → ∃ k, laws_FnExactSum.f k x0 = some true
end Go.Proofs.Ytjpemgjnpbipnaa.MFnExactSum
