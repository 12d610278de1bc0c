/- The reference's functions over disks by contract. -/
import Derived.Test.YtgpkdbnikcghgaaMC
namespace Go.Proofs.Ytgpkdbnikcghgaa.MD
open Go.RowKit Go.Proofs.YtgpkdbnikcghgaaW.PrintWords Go.Proofs.YtgpkdbnikcghgaaW.PrintLast Go.Proofs.YtgpkdbnikcghgaaW.PrintMore Go.Proofs.Ytgpkdbnikcghgaa.MWords Go.Proofs.Ytgpkdbnikcghgaa.MPD
set_option linter.unusedVariables false
def Pe (w:World) (r:lH) (e:Ending) (w':World):Prop:=∃cs',e = .returned (.tuple #[.agg cs',.int .i64 r.2.2.2.2])∧Rf w w' cs' ⟨r.1,r.2.1,r.2.2.1,r.2.2.2.1⟩
def Pg (w:World) (r:List aj × List ah × List ah × Int) (e:Ending) (w':World):Prop:=∃cs',e = .returned (.agg cs')∧Rf w w' cs' ⟨r.1,r.2.1,r.2.2.1,r.2.2.2⟩
section
variable {w:World} {cs:Array Value} {d:Dk} {nm:ByteArray}
theorem ao5 (hd:eT cs d w) (hs:Small d.f0 d.f1 d.f2) (hn:nm.size≤9223372036854775807):Calls Try.prog 36 #[.agg cs,.string nm] w (Pe w (FN d.f0 d.f1 d.f2 d.f3 nm)):=by
 obtain⟨K,hk⟩:=apm d.f0 d.f1 d.f2 d.f3 nm hn hs;obtain⟨A0,c0,A1,c1,A2,c2,rfl,l0,g0,l1,g1,l2,g2⟩:=hd.open;exact(DM.calls K _ _ _ _ _ _ _ _ _ _ _ _ _ _ _ _ w g0 l0 g1 l1 g2 l2 (hk K (Nat.le_refl _))).mono (fun e w' ⟨v0,v1,v2,he,h0,h1,h2,hb⟩=>⟨_,he,Fr.rf ⟨v0,v1,v2,rfl,h0,h1,h2⟩ hb⟩)
theorem apb (hd:eT cs d w) (hs:Small d.f0 d.f1 d.f2) (hn:nm.size≤9223372036854775807):Calls Try.prog 21 #[.agg cs,.string nm] w (Pe w (BZ d.f0 d.f1 d.f2 d.f3 nm)):=by
 obtain⟨K,hk⟩:=apq d.f0 d.f1 d.f2 d.f3 nm hn hs;obtain⟨A0,c0,A1,c1,A2,c2,rfl,l0,g0,l1,g1,l2,g2⟩:=hd.open;exact(lC.calls K _ _ _ _ _ _ _ _ _ _ _ _ _ _ _ _ w g0 l0 g1 l1 g2 l2 (hk K (Nat.le_refl _))).mono (fun e w' ⟨v0,v1,v2,he,h0,h1,h2,hb⟩=>⟨_,he,Fr.rf (QF h0 h1 h2) hb⟩)
theorem apc (hd:eT cs d w) (hs:Small d.f0 d.f1 d.f2):Calls Try.prog 19 #[.agg cs] w (Pe w (DO d.f0 d.f1 d.f2 d.f3)):=by
 obtain⟨K,hk⟩:=apo d.f0 d.f1 d.f2 d.f3 hs;obtain⟨A0,c0,A1,c1,A2,c2,rfl,l0,g0,l1,g1,l2,g2⟩:=hd.open;exact(DN.calls K _ _ _ _ _ _ _ _ _ _ _ _ _ _ _ w g0 l0 g1 l1 g2 l2 (hk K (Nat.le_refl _))).mono (fun e w' ⟨v0,v1,v2,he,h0,h1,h2,hb⟩=>⟨_,he,Fr.rf ⟨v0,v1,v2,rfl,h0,h1,h2⟩ hb⟩)
theorem ao3 {b:List Int} {A:Option Addr} {c:Nat} (hd:eT cs d w) (hs:Small d.f0 d.f1 d.f2) (hn:nm.size≤9223372036854775807) (hl:∀x ∈ d.f0,x.f1.length≤1048576) (hb:b.length≤1048600) (gb:Kd.C (Kd.int .u8) w A b.length b) (lb:b.length≤c):Calls Try.prog 23 #[.agg cs,.string nm,.slice A b.length c] w (Pe w (Ay d.f0 d.f1 d.f2 d.f3 nm b)):=by
 obtain⟨K,hk⟩:=apl d.f0 d.f1 d.f2 d.f3 nm b hn hs hl hb;obtain⟨A0,c0,A1,c1,A2,c2,rfl,l0,g0,l1,g1,l2,g2⟩:=hd.open;exact(lB.calls K _ _ _ _ _ _ _ _ _ _ _ _ _ _ _ _ _ _ _ w g0 l0 g1 l1 g2 l2 gb lb (hk K (Nat.le_refl _))).mono (fun e w' ⟨v0,v1,v2,he,h0,h1,h2,hb⟩=>⟨_,he,Fr.rf ⟨v0,v1,v2,rfl,h0,h1,h2⟩ hb⟩)
theorem ao6 {keep:Int} (hd:eT cs d w) (hs:Small d.f0 d.f1 d.f2) (hl:∀x ∈ d.f0,x.f1.length≤1048576) (GO:keep≤9223372036854775807):Calls Try.prog 111 #[.agg cs,.int .i64 keep] w (Pg w (pc (b8 d.f0 d.f1 d.f2 d.f3) d.f0 d.f1 d.f2 d.f3 keep)):=by
 obtain⟨K,hk⟩:=apn d.f0 d.f1 d.f2 d.f3 keep hs.h0 hl hs.h1 hs.h2 hs.z1 hs.z2 GO;obtain⟨A0,c0,A1,c1,A2,c2,rfl,l0,g0,l1,g1,l2,g2⟩:=hd.open;exact(dU.calls K _ _ _ _ _ _ _ _ _ _ _ _ _ _ _ w g0 l0 g1 l1 g2 l2 (hk K (Nat.le_refl _))).mono (fun e w' ⟨v0,v1,v2,he,h0,h1,h2,hb⟩=>⟨_,he,Fr.rf ⟨v0,v1,v2,rfl,h0,h1,h2⟩ hb⟩)
end
end Go.Proofs.Ytgpkdbnikcghgaa.MD
