-- The words that print.sh lays (WFour), without what these proofs do not use (wip/trimw.py).
import Derived.Test.YtecjamgajlpfdaaVTab
namespace Go.Proofs.YtecjamgajlpfdaaW.PrintLast
section
variable {P : Program} {ops : Array Oper} {Q : Exit → Act → World → Prop} {md : Region.Mode} {S : World → Prop} {ds : List Nat} {T : Bool × List (List Nat × List Nat)}
end
end Go.Proofs.YtecjamgajlpfdaaW.PrintLast
