-- The words that print.sh lays (WFootNe), without what these proofs do not use (wip/trimw.py).
import Derived.Test.YtgbejjeephipeaaVN
namespace Go.Proofs.YtgbejjeephipeaaW.PrintWords
open Go.RowKit
namespace Kd
section
variable {α : Type} {d : Kd α} {W : World} {g n : Nat} {S ok : Nat → Prop} {A : Option Addr} {ad : Addr} {xs : List α}
end
end Kd
end Go.Proofs.YtgbejjeephipeaaW.PrintWords
