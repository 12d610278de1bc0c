-- Written by mp.py, our own printer (wip/mp.py), and made shorter by wip/mp_shrink*.py.
import Derived.Test.YtgpkdbnikcghgaaVAll
import Derived.Test.YtgpkdbnikcghgaaMDx0
import Derived.Test.YtgpkdbnikcghgaaMDx13
namespace Go.Proofs.Ytgpkdbnikcghgaa.MD
open Go.RowKit Go.Proofs.YtgpkdbnikcghgaaW.PrintWords Go.Proofs.YtgpkdbnikcghgaaW.PrintLast Go.Proofs.YtgpkdbnikcghgaaW.PrintMore Go.Proofs.Ytgpkdbnikcghgaa.MWords
attribute [local go_sem] max2_int min2_int max_two min_two max_three min_three max_four min_four
set_option linter.unusedVariables false
set_option linter.unusedSimpArgs false
def P7.g (l0:List (ah)):Option (List (ah)):=(if ([]:List (ah)).length+l0.length<5864062014805 then (some (([]:List (ah))++l0)) else (none))
def P7.f (k:Nat) (l0:List (aj)) (l1 l2:List (ah)) (n:Int):Option (List (aj) × List (ah) × List (ah) × Int × Int):=(P7.g l1).bind fun t=>some (l0,l1,t,n,0)
def aAU.f (k:Nat) (U:List (aj)) (ab:List (ah)) (ae:List (ah)) (af:Int):Option ((List (aj)) × (List (ah)) × (List (ah)) × Int × Int):=(cM.f P7.f k U ab ae af ([]:List ByteArray) false).bind fun FA=>(some (FA.1,FA.2.1,FA.2.2.1,FA.2.2.2.1,FA.2.2.2.2))
end Go.Proofs.Ytgpkdbnikcghgaa.MD
