-- The words that print.sh lays (WInvWords), without what these proofs do not use (wip/trimw.py).
import Derived.Test.YtgncojbnejdplaaVInv
import Derived.Test.YtgncojbnejdplaaVFootNe
namespace Go.Proofs.YtgncojbnejdplaaW.PrintWords
open Go.RowKit
end Go.Proofs.YtgncojbnejdplaaW.PrintWords
namespace Go.Proofs.YtgncojbnejdplaaW.PrintLast
section
variable {ops : Array Oper} {a : Act} {o og : Oper} {g : Nat} {t : Tmp} {u : Bool}
end
end Go.Proofs.YtgncojbnejdplaaW.PrintLast
