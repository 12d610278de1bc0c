import Derived.Test.YtgpkdbnikcghgaaVWords
import Derived.Test.YtgpkdbnikcghgaaVApart
import Derived.Test.YtgpkdbnikcghgaaVN
import Derived.Lib.AppendStr
namespace Go.Proofs.Ytgpkdbnikcghgaa.MWords
open Go.RowKit Go.Proofs.YtgpkdbnikcghgaaW.PrintWords
theorem akh:∀a b:List UInt8,(Op.bytesLess a b || a == b) = !(Op.bytesLess b a)
 |[],[]=>rfl
 |[],_::_=>rfl
 |_::_,[]=>rfl
 |a::x,b::y=>by
  have ih:=akh x y;simp only[Op.bytesLess];by_cases h1:a<b
  ·have h2:¬b<a:=fun h=>by simp only[UInt8.lt_iff_toNat_lt]at h1 h;omega
   have h3:¬(b=a):=fun h=>by subst h;simp only[UInt8.lt_iff_toNat_lt]at h1;omega
   simp[h1,h2,h3]
  ·by_cases h2:b<a
   ·have h3:¬(a=b):=fun h=>by subst h;simp only[UInt8.lt_iff_toNat_lt]at h2;omega
    simp[h1,h2,h3]
   ·have h3:a=b:=by
     apply UInt8.toNat_inj.1;simp only[UInt8.lt_iff_toNat_lt]at h1 h2;omega
    subst h3;simp only[h1,decide_false,Bool.false_or,beq_self_eq_true,Bool.true_and];rw[←ih];simp
@[go_sem] theorem aR8 (t:TypeId) (a b:ByteArray):binOp .leq t (.string a) (.string b)=pure (.bool (!(Op.bytesLess b.toList a.toList))):=by
 rw[←akh];simp[binOp,Op.stringOp]
@[go_sem] theorem aR7 (t:TypeId) (a b:ByteArray):binOp .gtr t (.string a) (.string b)=pure (.bool (Op.bytesLess b.toList a.toList)):=by
 have h:=akh a.toList b.toList;have h2:Op.bytesLess b.toList a.toList = !(Op.bytesLess a.toList b.toList || a.toList == b.toList):=by rw[h,Bool.not_not]
 rw[h2];simp[binOp,Op.stringOp]
@[go_sem] theorem aR6 (t:TypeId) (a b:ByteArray):binOp .geq t (.string a) (.string b)=pure (.bool (!(Op.bytesLess a.toList b.toList))):=by
 simp[binOp,Op.stringOp]
section
variable {P:Program} {w:World}
end
section
variable {P:Program} {ops:Array Oper} {rest:List Oper} {o:Oper} {a:Act} {Q:Exit→Act→World→Prop}
end
theorem sC {n:Nat} {W w1:World} (_:Below n W w1):∃z,z=n:=⟨n,rfl⟩
theorem nf {α:Type} {d:Kd α} {e base n z:Nat} {ok:Nat→Prop} {w:World} {v:Value} {xs:List α} (h:Kd.S d e w base (fun k=>ok k∧k<n) v xs) (hz:z=n):Kd.S d e w base (fun k=>ok k∧k<z) v xs:=by
 subst hz;exact h
theorem sB {α:Type} {d:Kd α} {e n z:Nat} {ok:Nat→Prop} {w:World} {v:Value} {xs:List α} (h:Kd.S d e w n ok v xs) (hz:z=n):Kd.S d e w n (fun k=>ok k∧z≤k) v xs:=by
 subst hz;exact Kd.bn (Kd.qb h) (fun _ hk=>⟨hk.1,hk.2.1⟩)
theorem uT {α:Type} {d:Kd α} {e base n z:Nat} {ok:Nat→Prop} {w:World} {v:Value} {xs:List α} (h:Kd.N d e w base (fun k=>ok k∧k<n) v xs) (hz:z=n):Kd.N d e w base (fun k=>ok k∧k<z) v xs:=by
 subst hz;exact h
end Go.Proofs.Ytgpkdbnikcghgaa.MWords
