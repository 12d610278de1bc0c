/- The reference's functions over disks by contract. -/
import Derived.Test.YtgpkdbnikcghgaaMC
namespace Go.Proofs.Ytgpkdbnikcghgaa.MD
open Go.RowKit Go.Proofs.YtgpkdbnikcghgaaW.PrintWords Go.Proofs.YtgpkdbnikcghgaaW.PrintLast Go.Proofs.YtgpkdbnikcghgaaW.PrintMore Go.Proofs.Ytgpkdbnikcghgaa.MWords Go.Proofs.Ytgpkdbnikcghgaa.MPD
set_option linter.unusedVariables false
section
variable {w:World} {cs:Array Value} {d:Dk} {nm:ByteArray}
theorem ads (hd:eY cs d w) (hs:Small d.f0 d.f1 d.f2) (hn:nm.size≤9223372036854775807):Calls Try.prog 36 #[.agg cs,.string nm] w (Pd w (pS d.f0 d.f1 d.f2 d.f3 nm)):=by
 obtain⟨K,hk⟩:=apV d.f0 d.f1 d.f2 d.f3 nm hn hs;obtain⟨A0,c0,A1,c1,A2,c2,rfl,l0,g0,l1,g1,l2,g2⟩:=hd.open;exact(Ec.calls K _ _ _ _ _ _ _ _ _ _ _ _ _ _ _ _ w g0 l0 g1 l1 g2 l2 (hk K (Nat.le_refl _))).mono (fun e w' ⟨v0,v1,v2,he,h0,h1,h2,hb⟩=>⟨_,he,M8 h0 h1 h2 hb⟩)
theorem apI (hd:eY cs d w) (hs:Small d.f0 d.f1 d.f2) (hn:nm.size≤9223372036854775807):Calls Try.prog 21 #[.agg cs,.string nm] w (Pd w (tA d.f0 d.f1 d.f2 d.f3 nm)):=by
 obtain⟨K,hk⟩:=apY d.f0 d.f1 d.f2 d.f3 nm hn hs;obtain⟨A0,c0,A1,c1,A2,c2,rfl,l0,g0,l1,g1,l2,g2⟩:=hd.open;exact(lL.calls K _ _ _ _ _ _ _ _ _ _ _ _ _ _ _ _ w g0 l0 g1 l1 g2 l2 (hk K (Nat.le_refl _))).mono (fun e w' ⟨v0,v1,v2,he,h0,h1,h2,hb⟩=>⟨_,he,Cx h0 h1 h2 hb⟩)
theorem apJ (hd:eY cs d w) (hs:Small d.f0 d.f1 d.f2):Calls Try.prog 19 #[.agg cs] w (Pd w (uU d.f0 d.f1 d.f2 d.f3)):=by
 obtain⟨K,hk⟩:=apX d.f0 d.f1 d.f2 d.f3 hs;obtain⟨A0,c0,A1,c1,A2,c2,rfl,l0,g0,l1,g1,l2,g2⟩:=hd.open;exact(Ed.calls K _ _ _ _ _ _ _ _ _ _ _ _ _ _ _ w g0 l0 g1 l1 g2 l2 (hk K (Nat.le_refl _))).mono (fun e w' ⟨v0,v1,v2,he,h0,h1,h2,hb⟩=>⟨_,he,M8 h0 h1 h2 hb⟩)
theorem apB {b:List Int} {A:Option Addr} {c:Nat} (hd:eY cs d w) (hs:Small d.f0 d.f1 d.f2) (hn:nm.size≤9223372036854775807) (hl:∀x ∈ d.f0,x.f1.length≤1048576) (hb:b.length≤1048600) (gb:Kd.C (Kd.int .u8) w A b.length b) (lb:b.length≤c):Calls Try.prog 23 #[.agg cs,.string nm,.slice A b.length c] w (Pd w (sx d.f0 d.f1 d.f2 d.f3 nm b)):=by
 obtain⟨K,hk⟩:=apU d.f0 d.f1 d.f2 d.f3 nm b hn hs hl hb;obtain⟨A0,c0,A1,c1,A2,c2,rfl,l0,g0,l1,g1,l2,g2⟩:=hd.open;exact(lK.calls K _ _ _ _ _ _ _ _ _ _ _ _ _ _ _ _ _ _ _ w g0 l0 g1 l1 g2 l2 gb lb (hk K (Nat.le_refl _))).mono (fun e w' ⟨v0,v1,v2,he,h0,h1,h2,hb⟩=>⟨_,he,M8 h0 h1 h2 hb⟩)
theorem apD {keep:Int} (hd:eY cs d w) (hs:Small d.f0 d.f1 d.f2) (hl:∀x ∈ d.f0,x.f1.length≤1048576) (Hk:keep≤9223372036854775807):Calls Try.prog 111 #[.agg cs,.int .i64 keep] w (Pf w (pt (bS d.f0 d.f1 d.f2 d.f3) d.f0 d.f1 d.f2 d.f3 keep)):=by
 obtain⟨K,hk⟩:=apW d.f0 d.f1 d.f2 d.f3 keep hs.h0 hl hs.h1 hs.h2 hs.z1 hs.z2 Hk;obtain⟨A0,c0,A1,c1,A2,c2,rfl,l0,g0,l1,g1,l2,g2⟩:=hd.open;exact(dX.calls K _ _ _ _ _ _ _ _ _ _ _ _ _ _ _ w g0 l0 g1 l1 g2 l2 (hk K (Nat.le_refl _))).mono (fun e w' ⟨v0,v1,v2,he,h0,h1,h2,hb⟩=>⟨_,he,M8 h0 h1 h2 hb⟩)
end
end Go.Proofs.Ytgpkdbnikcghgaa.MD
