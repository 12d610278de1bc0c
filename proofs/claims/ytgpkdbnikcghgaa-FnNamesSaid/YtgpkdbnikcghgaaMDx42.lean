-- Written by mp.py, our own printer (wip/mp.py), and made shorter by wip/mp_shrink*.py.
import Derived.Test.YtgpkdbnikcghgaaVAll
import Derived.Test.YtgpkdbnikcghgaaMDx0
import Derived.Test.YtgpkdbnikcghgaaMDx10
import Derived.Test.YtgpkdbnikcghgaaMDx13
namespace Go.Proofs.Ytgpkdbnikcghgaa.MD
open Go.RowKit Go.Proofs.YtgpkdbnikcghgaaW.PrintWords Go.Proofs.YtgpkdbnikcghgaaW.PrintLast Go.Proofs.YtgpkdbnikcghgaaW.PrintMore Go.Proofs.Ytgpkdbnikcghgaa.MWords
attribute [local go_sem] max2_int min2_int max_two min_two max_three min_three max_four min_four
set_option linter.unusedVariables false
set_option linter.unusedSimpArgs false
def aii.f (k:Nat) (U:List (aj)) (ab:List (ah)) (ae:List (ah)) (af:Int) (a1:ByteArray):Option (Int):=(iY.f k U ab ae af a1).bind fun po=>((kn.f k U ab ae af po).bind fun B7=>(if 0≤B7 then (if B7<(U.length:Int) then (some B7) else (none)) else (none)))
def P6.T1:Bool × List (List Nat × List Nat):=(true,[([],[]),([0],[0]),([1],[1]),([2],[2]),([],[]),([4],[4]),([5],[5]),([],[]),([7],[7]),([8],[8]),([],[]),([9,10],[9,10]),([6,11,11],[6,11]),([3,12],[3,12]),([13,12,0,1,2,3,4,5,6,7,8,9,10,11,12,13],[13])])
def P6.B1:List Nat:=[0,1,3,7,0,16,48,0,128,384,0,1920,4080,8191,16383]
def P6.f (a1:ByteArray) (k:Nat) (l0:List (aj)) (l1 l2:List (ah)) (n:Int):Option (List (aj) × List (ah) × List (ah) × Int × Int):=(aii.f k l0 l1 l2 n a1).bind fun t=>some (l0.set t.toNat (⟨(aa l0 t).f0,(aa l0 t).f1,((aa l0 t).f1.length:Int)⟩:aj),l1,l2,n,0)
def aAT.f (k:Nat) (U:List (aj)) (ab:List (ah)) (ae:List (ah)) (af:Int) (a1:ByteArray):Option ((List (aj)) × (List (ah)) × (List (ah)) × Int × Int):=(cM.f (P6.f a1) k U ab ae af (([a1]:List ByteArray)) true).bind fun Fz=>(some (Fz.1,Fz.2.1,Fz.2.2.1,Fz.2.2.2.1,Fz.2.2.2.2))
end Go.Proofs.Ytgpkdbnikcghgaa.MD
