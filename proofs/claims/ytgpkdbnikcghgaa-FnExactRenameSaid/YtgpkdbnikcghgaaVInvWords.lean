import Derived.Test.YtgpkdbnikcghgaaVInv
import Derived.Test.YtgpkdbnikcghgaaVFootNe
namespace Go.Proofs.YtgpkdbnikcghgaaW.PrintWords
open Go.RowKit
end Go.Proofs.YtgpkdbnikcghgaaW.PrintWords
namespace Go.Proofs.YtgpkdbnikcghgaaW.PrintLast
section
variable {ops:Array Oper} {a:Act} {o og:Oper} {g:Nat} {t:Tmp} {u:Bool}
end
end Go.Proofs.YtgpkdbnikcghgaaW.PrintLast
