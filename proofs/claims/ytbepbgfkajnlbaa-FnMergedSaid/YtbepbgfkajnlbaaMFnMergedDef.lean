/- What the law FnMerged says of plain values: its Pure; and that its parameters are read as such values. Written by mp.py. -/
import Derived.Test.YtbepbgfkajnlbaaMFnMergedx13
import Derived.Test.YtbepbgfkajnlbaaVMOpens
namespace Go.Proofs.Ytbepbgfkajnlbaa.MFnMerged
open Go.RowKit Go.Proofs.YtbepbgfkajnlbaaW.PrintWords Go.Proofs.YtbepbgfkajnlbaaW.PrintLast Go.Proofs.YtbepbgfkajnlbaaW.PrintMore Go.Proofs.Ytbepbgfkajnlbaa.MOpens
set_option linter.unusedVariables false
/-- THE ONE PURE STATEMENT of laws_FnMerged. -/
def laws_FnMerged.Pure : Prop := ∀ (x0 : List Int), (x0.length ≤ maxLen ∧ ∀ y0_ ∈ x0, (Lit.int .u8 y0_).wf = true) → ∃ k, laws_FnMerged.f k x0 = some true
end Go.Proofs.Ytbepbgfkajnlbaa.MFnMerged
