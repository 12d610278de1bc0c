-- Written by mp.py, our own printer (wip/mp.py), and made shorter by wip/mp_shrink*.py.
import Derived.Test.YtgpkdbnikcghgaaVAll
import Derived.Test.YtgpkdbnikcghgaaMDx13
import Derived.Test.YtgpkdbnikcghgaaMDx0
import Derived.Test.YtgpkdbnikcghgaaMDx10
import Derived.Test.YtgpkdbnikcghgaaMDx13
import Derived.Test.YtgpkdbnikcghgaaMDx15
namespace Go.Proofs.Ytgpkdbnikcghgaa.MD
open Go.RowKit Go.Proofs.YtgpkdbnikcghgaaW.PrintWords Go.Proofs.YtgpkdbnikcghgaaW.PrintLast Go.Proofs.YtgpkdbnikcghgaaW.PrintMore Go.Proofs.Ytgpkdbnikcghgaa.MWords
attribute [local go_sem] max2_int min2_int max_two min_two max_three min_three max_four min_four
set_option linter.unusedVariables false
set_option linter.unusedSimpArgs false
def AJ.T1:Bool × List (List Nat × List Nat):=(true,[([],[]),([0],[0]),([1],[1]),([],[]),([2,3],[2,3]),([4],[4])])
def AJ.B1:List Nat:=[0,1,3,0,15,31]
def AJ.T3:Bool × List (List Nat × List Nat):=(true,[([],[]),([],[]),([],[]),([2],[2]),([3],[3]),([4],[4]),([1,5],[1,5]),([0,6],[0,6])])
def AJ.B3:List Nat:=[0,0,0,4,12,28,62,127]
def AJ.T4:Bool × List (List Nat × List Nat):=(true,[([],[]),([],[]),([1],[1]),([2],[2]),([3],[3]),([],[]),([5],[5]),([6],[6]),([7],[7]),([8],[8]),([9],[9]),([4,10],[4,10]),([0,0,1,2,3,4,5,6,7,8,9,10,11],[0]),([12,0,1,2,3,4,5,6,7,8,9,10,11],[12]),([13,11,11,0,1,2,3,4,5,6,7,8,9,10,11],[11,13])])
def AJ.B4:List Nat:=[0,0,2,6,14,0,32,96,224,480,992,2046,4095,8191,16383]
def AJ.f (a1:ByteArray) (k:Nat) (l0:List (aj)) (l1 l2:List (ah)) (n:Int):Option (List (aj) × List (ah) × List (ah) × Int × Int):=(iY.f k l0 l1 l2 n a1).bind fun id=>if 0<id then some (l0,l1,l2,n,3) else (bn.f l1 a1 n).bind fun z=>if l0.length<3518437208883 then some (l0++[(⟨n,[],0⟩:aj)],z,l2,wrap64 (n+1),0) else none
def aAS.f (k:Nat) (U:List (aj)) (ab:List (ah)) (ae:List (ah)) (af:Int) (a1:ByteArray):Option ((List (aj)) × (List (ah)) × (List (ah)) × Int × Int):=(cM.f (AJ.f a1) k U ab ae af (([a1]:List ByteArray)) false).bind fun Fx=>(some (Fx.1,Fx.2.1,Fx.2.2.1,Fx.2.2.2.1,Fx.2.2.2.2))
end Go.Proofs.Ytgpkdbnikcghgaa.MD
