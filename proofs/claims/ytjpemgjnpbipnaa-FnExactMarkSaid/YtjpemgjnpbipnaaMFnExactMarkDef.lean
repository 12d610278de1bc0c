/- What the law FnExactMark says of plain values: its Pure; and that its parameters are read as such values. Written by mp.py. -/
import Derived.Test.YtjpemgjnpbipnaaMFnExactMarkx1
import Derived.Test.YtjpemgjnpbipnaaMOpens
namespace Go.Proofs.Ytjpemgjnpbipnaa.MFnExactMark
open Go.RowKit Go.Proofs.YtjpemgjnpbipnaaW.PrintWords Go.Proofs.YtjpemgjnpbipnaaW.PrintLast Go.Proofs.YtjpemgjnpbipnaaW.PrintMore Go.Proofs.Ytjpemgjnpbipnaa.MOpens
set_option linter.unusedVariables false
/-- THE ONE PURE STATEMENT of laws_FnExactMark. -/
def laws_FnExactMark.Pure : Prop := ∀ (x0 : ByteArray), x0.size ≤ 140737488351232 → ∃ k, laws_FnExactMark.f k x0 = some true
end Go.Proofs.Ytjpemgjnpbipnaa.MFnExactMark
