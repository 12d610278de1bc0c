-- The words that print.sh lays (WInvWords), without what these proofs do not use (wip/trimw.py).
import Derived.Test.YtgbejjeephipeaaVInv
import Derived.Test.YtgbejjeephipeaaVFootNe
namespace Go.Proofs.YtgbejjeephipeaaW.PrintWords
open Go.RowKit
end Go.Proofs.YtgbejjeephipeaaW.PrintWords
namespace Go.Proofs.YtgbejjeephipeaaW.PrintLast
section
variable {ops : Array Oper} {a : Act} {o og : Oper} {g : Nat} {t : Tmp} {u : Bool}
end
end Go.Proofs.YtgbejjeephipeaaW.PrintLast
