/- What the law FnStable says of plain values: its Pure; and that its parameters are read as such values. Written by mp.py. -/
import Derived.Test.YtgbejjeephipeaaMFnStablex18
import Derived.Test.YtgbejjeephipeaaVMOpens
namespace Go.Proofs.Ytgbejjeephipeaa.MFnStable
open Go.RowKit Go.Proofs.YtgbejjeephipeaaW.PrintWords Go.Proofs.YtgbejjeephipeaaW.PrintLast Go.Proofs.YtgbejjeephipeaaW.PrintMore Go.Proofs.Ytgbejjeephipeaa.MOpens
set_option linter.unusedVariables false
/-- THE ONE PURE STATEMENT of laws_FnStable. -/
def laws_FnStable.Pure : Prop := ∀ (x0 : List Int), (x0.length ≤ maxLen ∧ ∀ y0_ ∈ x0, (Lit.int .u8 y0_).wf = true) → ∃ k, laws_FnStable.f k x0 = some true
end Go.Proofs.Ytgbejjeephipeaa.MFnStable
