-- Written by mp.py, our own printer (wip/mp.py), and made shorter by wip/mp_shrink*.py.
import Derived.Test.YtgpkdbnikcghgaaVAll
import Derived.Test.YtgpkdbnikcghgaaMDx0
import Derived.Test.YtgpkdbnikcghgaaMDx7
import Derived.Test.YtgpkdbnikcghgaaMDx8
import Derived.Test.YtgpkdbnikcghgaaMDx9
import Derived.Test.YtgpkdbnikcghgaaMDx20
import Derived.Test.YtgpkdbnikcghgaaMDx21
import Derived.Test.YtgpkdbnikcghgaaMDx22
namespace Go.Proofs.Ytgpkdbnikcghgaa.MD
open Go.RowKit Go.Proofs.YtgpkdbnikcghgaaW.PrintWords Go.Proofs.YtgpkdbnikcghgaaW.PrintLast Go.Proofs.YtgpkdbnikcghgaaW.PrintMore Go.Proofs.Ytgpkdbnikcghgaa.MWords
attribute [local go_sem] max2_int min2_int max_two min_two max_three min_three max_four min_four
set_option linter.unusedVariables false
set_option linter.unusedSimpArgs false
mutual
def Cy.j0:Nat→ByteArray→ByteArray→Int→Bool→List (aj)→List (ah)→List (ah)→Int→List (aj)→List (ah)→List (ah)→Int→Option ((List (aj)) × (List (ah)) × (List (ah)) × Int × Int)
 |0,_,_,_,_,_,_,_,_,_,_,_,_=>none
 |k+1,x1,x2,x9,yI,NR,NS,NT,NU,EB,yF,EC,ED=>if yI=true then (some (EB,yF,EC,ED,1)) else (if x9=0 then (Cy.j1 k x1 x2 x9 (x1.toList == x2.toList) NR NS NT NU EB yF EC ED) else (Cy.j1 k x1 x2 x9 true NR NS NT NU EB yF EC ED))
def Cy.j1:Nat→ByteArray→ByteArray→Int→Bool→List (aj)→List (ah)→List (ah)→Int→List (aj)→List (ah)→List (ah)→Int→Option ((List (aj)) × (List (ah)) × (List (ah)) × Int × Int)
 |0,_,_,_,_,_,_,_,_,_,_,_,_=>none
 |k+1,x1,x2,x9,CR,NR,NS,NT,NU,EB,yF,EC,ED=>if CR=true then (some (EB,yF,EC,ED,x9)) else ((jK.f k yF x1).bind fun U6=>(if 0≤U6 then (if U6<(yF.length:Int) then ((nh.f k yF x1).bind fun aqa=>((dN.f k aqa x2 ((aw yF U6).f1)).bind fun aqb=>((kg.f k NR NS NT NU EB aqb EC ED).bind fun F0=>(some (F0.1,F0.2.1,F0.2.2.1,F0.2.2.2.1,F0.2.2.2.2))))) else (none)) else (none)))
end
def Cy.f (k:Nat) (U:List (aj)) (ab:List (ah)) (ae:List (ah)) (af:Int) (a1:ByteArray) (a2:ByteArray):Option ((List (aj)) × (List (ah)) × (List (ah)) × Int × Int):=(dz.f k U ab ae af).bind fun zl=>((iu.f k U ab ae af a1).bind fun U5=>(if U5=1 then (Cy.j0 k a1 a2 U5 true U ab ae af zl.1 zl.2.1 zl.2.2.1 zl.2.2.2) else ((e8.f k a2).bind fun ap9=>(Cy.j0 k a1 a2 U5 (!ap9) U ab ae af zl.1 zl.2.1 zl.2.2.1 zl.2.2.2))))
end Go.Proofs.Ytgpkdbnikcghgaa.MD
