-- Written by mp.py, our own printer (wip/mp.py), and made shorter by wip/mp_shrink*.py.
import Derived.Test.YtgpkdbnikcghgaaVAll
import Derived.Test.YtgpkdbnikcghgaaMDx0
import Derived.Test.YtgpkdbnikcghgaaMDx8
import Derived.Test.YtgpkdbnikcghgaaMDx9
import Derived.Test.YtgpkdbnikcghgaaMDx20
import Derived.Test.YtgpkdbnikcghgaaMDx22
namespace Go.Proofs.Ytgpkdbnikcghgaa.MD
open Go.RowKit Go.Proofs.YtgpkdbnikcghgaaW.PrintWords Go.Proofs.YtgpkdbnikcghgaaW.PrintLast Go.Proofs.YtgpkdbnikcghgaaW.PrintMore Go.Proofs.Ytgpkdbnikcghgaa.MWords
attribute [local go_sem] max2_int min2_int max_two min_two max_three min_three max_four min_four
set_option linter.unusedVariables false
set_option linter.unusedSimpArgs false
def aps.f (k:Nat) (U:List (aj)) (ab:List (ah)) (ae:List (ah)) (af:Int) (a1:ByteArray):Option ((List (aj)) × (List (ah)) × (List (ah)) × Int × Int):=(dj.f k U ab ae af).bind fun yT=>((ik.f k U ab ae af a1).bind fun adr=>(if adr=0 then ((nc.f k yT.2.1 a1).bind fun apD=>((j6.f k U ab ae af yT.1 apD yT.2.2.1 yT.2.2.2).bind fun FB=>(some (FB.1,FB.2.1,FB.2.2.1,FB.2.2.2.1,FB.2.2.2.2)))) else (some (yT.1,yT.2.1,yT.2.2.1,yT.2.2.2,adr))))
end Go.Proofs.Ytgpkdbnikcghgaa.MD
