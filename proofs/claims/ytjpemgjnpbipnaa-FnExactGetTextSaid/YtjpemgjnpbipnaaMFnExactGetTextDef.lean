/- What the law FnExactGetText says of plain values: its Pure; and that its parameters are read as such values. Written by mp.py. -/
import Derived.Test.YtjpemgjnpbipnaaMFnExactGetTextx2
import Derived.Test.YtjpemgjnpbipnaaMOpens
namespace Go.Proofs.Ytjpemgjnpbipnaa.MFnExactGetText
open Go.RowKit Go.Proofs.YtjpemgjnpbipnaaW.PrintWords Go.Proofs.YtjpemgjnpbipnaaW.PrintLast Go.Proofs.YtjpemgjnpbipnaaW.PrintMore Go.Proofs.Ytjpemgjnpbipnaa.MOpens
set_option linter.unusedVariables false
/-- THE ONE PURE STATEMENT of laws_FnExactGetText. -/
def laws_FnExactGetText.Pure : Prop := ∀ (x0 : List Int) (x1 : Int), (x0.length ≤ maxLen ∧ ∀ y0_ ∈ x0, (Lit.int .u8 y0_).wf = true) → (Lit.int .i64 x1).wf = true → ∃ k, laws_FnExactGetText.f k x0 x1 = some true
end Go.Proofs.Ytjpemgjnpbipnaa.MFnExactGetText
