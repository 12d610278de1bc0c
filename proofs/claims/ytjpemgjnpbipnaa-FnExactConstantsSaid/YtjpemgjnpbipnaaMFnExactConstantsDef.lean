/- What the law FnExactConstants says of plain values: its Pure; and that its parameters are read as such values. Written by mp.py. -/
import Derived.Test.YtjpemgjnpbipnaaMFnExactConstantsx1
import Derived.Test.YtjpemgjnpbipnaaMOpens
namespace Go.Proofs.Ytjpemgjnpbipnaa.MFnExactConstants
open Go.RowKit Go.Proofs.YtjpemgjnpbipnaaW.PrintWords Go.Proofs.YtjpemgjnpbipnaaW.PrintLast Go.Proofs.YtjpemgjnpbipnaaW.PrintMore Go.Proofs.Ytjpemgjnpbipnaa.MOpens
set_option linter.unusedVariables false
/-- THE ONE PURE STATEMENT of laws_FnExactConstants. -/
def laws_FnExactConstants.Pure : Prop := laws_FnExactConstants.f  = some true
end Go.Proofs.Ytjpemgjnpbipnaa.MFnExactConstants
