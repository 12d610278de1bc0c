-- Written by mp.py, our own printer (wip/mp.py), and made shorter by wip/mp_shrink*.py.
import Derived.Test.YtgpkdbnikcghgaaVAll
import Derived.Test.YtgpkdbnikcghgaaMDx0
import Derived.Test.YtgpkdbnikcghgaaMDx8
import Derived.Test.YtgpkdbnikcghgaaMDx9
import Derived.Test.YtgpkdbnikcghgaaMDx20
import Derived.Test.YtgpkdbnikcghgaaMDx22
namespace Go.Proofs.Ytgpkdbnikcghgaa.MD
open Go.RowKit Go.Proofs.YtgpkdbnikcghgaaW.PrintWords Go.Proofs.YtgpkdbnikcghgaaW.PrintLast Go.Proofs.YtgpkdbnikcghgaaW.PrintMore Go.Proofs.Ytgpkdbnikcghgaa.MWords
attribute [local go_sem] max2_int min2_int max_two min_two max_three min_three max_four min_four
set_option linter.unusedVariables false
set_option linter.unusedSimpArgs false
def ap0.f (k:Nat) (U:List (aj)) (ab:List (ah)) (ae:List (ah)) (af:Int) (a1:ByteArray):Option ((List (aj)) × (List (ah)) × (List (ah)) × Int × Int):=(dz.f k U ab ae af).bind fun zn=>((iu.f k U ab ae af a1).bind fun ad3=>(if ad3=0 then ((nh.f k zn.2.1 a1).bind fun aqg=>((kg.f k U ab ae af zn.1 aqg zn.2.2.1 zn.2.2.2).bind fun F4=>(some (F4.1,F4.2.1,F4.2.2.1,F4.2.2.2.1,F4.2.2.2.2)))) else (some (zn.1,zn.2.1,zn.2.2.1,zn.2.2.2,ad3))))
end Go.Proofs.Ytgpkdbnikcghgaa.MD
