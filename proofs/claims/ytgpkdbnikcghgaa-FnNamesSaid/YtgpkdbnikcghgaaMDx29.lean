-- Written by mp.py, our own printer (wip/mp.py), and made shorter by wip/mp_shrink*.py.
import Derived.Test.YtgpkdbnikcghgaaVAll
import Derived.Test.YtgpkdbnikcghgaaMDx0
import Derived.Test.YtgpkdbnikcghgaaMDx7
import Derived.Test.YtgpkdbnikcghgaaMDx8
import Derived.Test.YtgpkdbnikcghgaaMDx9
import Derived.Test.YtgpkdbnikcghgaaMDx20
import Derived.Test.YtgpkdbnikcghgaaMDx21
import Derived.Test.YtgpkdbnikcghgaaMDx22
namespace Go.Proofs.Ytgpkdbnikcghgaa.MD
open Go.RowKit Go.Proofs.YtgpkdbnikcghgaaW.PrintWords Go.Proofs.YtgpkdbnikcghgaaW.PrintLast Go.Proofs.YtgpkdbnikcghgaaW.PrintMore Go.Proofs.Ytgpkdbnikcghgaa.MWords
attribute [local go_sem] max2_int min2_int max_two min_two max_three min_three max_four min_four
set_option linter.unusedVariables false
set_option linter.unusedSimpArgs false
mutual
def BT.j0:Nat→ByteArray→ByteArray→Int→Bool→List (aj)→List (ah)→List (ah)→Int→List (aj)→List (ah)→List (ah)→Int→Option ((List (aj)) × (List (ah)) × (List (ah)) × Int × Int)
 |0,_,_,_,_,_,_,_,_,_,_,_,_=>none
 |k+1,x1,x2,x9,yg,Nh,Nl,Nn,No,D6,yd,D7,D8=>if yg=true then (some (D6,yd,D7,D8,1)) else (if x9=0 then (BT.j1 k x1 x2 x9 (x1.toList == x2.toList) Nh Nl Nn No D6 yd D7 D8) else (BT.j1 k x1 x2 x9 true Nh Nl Nn No D6 yd D7 D8))
def BT.j1:Nat→ByteArray→ByteArray→Int→Bool→List (aj)→List (ah)→List (ah)→Int→List (aj)→List (ah)→List (ah)→Int→Option ((List (aj)) × (List (ah)) × (List (ah)) × Int × Int)
 |0,_,_,_,_,_,_,_,_,_,_,_,_=>none
 |k+1,x1,x2,x9,Cs,Nh,Nl,Nn,No,D6,yd,D7,D8=>if Cs=true then (some (D6,yd,D7,D8,x9)) else ((jD.f k yd x1).bind fun Uo=>(if 0≤Uo then (if Uo<(yd.length:Int) then ((nc.f k yd x1).bind fun apz=>((dJ.f k apz x2 ((av yd Uo).f1)).bind fun apA=>((j6.f k Nh Nl Nn No D6 apA D7 D8).bind fun Fv=>(some (Fv.1,Fv.2.1,Fv.2.2.1,Fv.2.2.2.1,Fv.2.2.2.2))))) else (none)) else (none)))
end
def BT.f (k:Nat) (U:List (aj)) (ab:List (ah)) (ae:List (ah)) (af:Int) (a1:ByteArray) (a2:ByteArray):Option ((List (aj)) × (List (ah)) × (List (ah)) × Int × Int):=(dj.f k U ab ae af).bind fun yR=>((ik.f k U ab ae af a1).bind fun Un=>(if Un=1 then (BT.j0 k a1 a2 Un true U ab ae af yR.1 yR.2.1 yR.2.2.1 yR.2.2.2) else ((eW.f k a2).bind fun apy=>(BT.j0 k a1 a2 Un (!apy) U ab ae af yR.1 yR.2.1 yR.2.2.1 yR.2.2.2))))
end Go.Proofs.Ytgpkdbnikcghgaa.MD
