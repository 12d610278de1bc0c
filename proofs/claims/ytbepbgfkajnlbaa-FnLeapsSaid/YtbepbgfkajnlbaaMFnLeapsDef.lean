/- What the law FnLeaps says of plain values: its Pure; and that its parameters are read as such values. Written by mp.py. -/
import Derived.Test.YtbepbgfkajnlbaaMFnLeapsx7
import Derived.Test.YtbepbgfkajnlbaaVMOpens
namespace Go.Proofs.Ytbepbgfkajnlbaa.MFnLeaps
open Go.RowKit Go.Proofs.YtbepbgfkajnlbaaW.PrintWords Go.Proofs.YtbepbgfkajnlbaaW.PrintLast Go.Proofs.YtbepbgfkajnlbaaW.PrintMore Go.Proofs.Ytbepbgfkajnlbaa.MOpens
set_option linter.unusedVariables false
/-- THE ONE PURE STATEMENT of laws_FnLeaps. -/
def laws_FnLeaps.Pure : Prop := ∀ (x0 : List Int), (x0.length ≤ maxLen ∧ ∀ y0_ ∈ x0, (Lit.int .u8 y0_).wf = true) → ∃ k, laws_FnLeaps.f k x0 = some true
end Go.Proofs.Ytbepbgfkajnlbaa.MFnLeaps
