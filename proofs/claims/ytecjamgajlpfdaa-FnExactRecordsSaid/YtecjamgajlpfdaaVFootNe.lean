-- The words that print.sh lays (WFootNe), without what these proofs do not use (wip/trimw.py).
import Derived.Test.YtecjamgajlpfdaaVN
namespace Go.Proofs.YtecjamgajlpfdaaW.PrintWords
open Go.RowKit
namespace Kd
section
variable {α : Type} {d : Kd α} {W : World} {g n : Nat} {S ok : Nat → Prop} {A : Option Addr} {ad : Addr} {xs : List α}
end
end Kd
end Go.Proofs.YtecjamgajlpfdaaW.PrintWords
