-- The words that print.sh lays (WInvWords), without what these proofs do not use (wip/trimw.py).
import Derived.Test.YtecjamgajlpfdaaVInv
import Derived.Test.YtecjamgajlpfdaaVFootNe
namespace Go.Proofs.YtecjamgajlpfdaaW.PrintWords
open Go.RowKit
end Go.Proofs.YtecjamgajlpfdaaW.PrintWords
namespace Go.Proofs.YtecjamgajlpfdaaW.PrintLast
section
variable {ops : Array Oper} {a : Act} {o og : Oper} {g : Nat} {t : Tmp} {u : Bool}
end
end Go.Proofs.YtecjamgajlpfdaaW.PrintLast
