/- What the law FnExactDiskNew says of plain values: its Pure; and that its parameters are read as such values. Written by mp.py. -/
import Derived.Test.YtgbejjeephipeaaMFnExactDiskNewx4
import Derived.Test.YtgbejjeephipeaaVMOpens
namespace Go.Proofs.Ytgbejjeephipeaa.MFnExactDiskNew
open Go.RowKit Go.Proofs.YtgbejjeephipeaaW.PrintWords Go.Proofs.YtgbejjeephipeaaW.PrintLast Go.Proofs.YtgbejjeephipeaaW.PrintMore Go.Proofs.Ytgbejjeephipeaa.MOpens
set_option linter.unusedVariables false
/-- THE ONE PURE STATEMENT of laws_FnExactDiskNew. -/
def laws_FnExactDiskNew.Pure : Prop := ∃ k, laws_FnExactDiskNew.f k  = some true
end Go.Proofs.Ytgbejjeephipeaa.MFnExactDiskNew
