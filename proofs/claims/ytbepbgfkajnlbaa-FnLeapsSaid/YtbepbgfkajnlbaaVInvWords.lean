-- The words that print.sh lays (WInvWords), without what these proofs do not use (wip/trimw.py).
import Derived.Test.YtbepbgfkajnlbaaVInv
import Derived.Test.YtbepbgfkajnlbaaVFootNe
namespace Go.Proofs.YtbepbgfkajnlbaaW.PrintWords
open Go.RowKit
end Go.Proofs.YtbepbgfkajnlbaaW.PrintWords
namespace Go.Proofs.YtbepbgfkajnlbaaW.PrintLast
section
variable {ops : Array Oper} {a : Act} {o og : Oper} {g : Nat} {t : Tmp} {u : Bool}
end
end Go.Proofs.YtbepbgfkajnlbaaW.PrintLast
