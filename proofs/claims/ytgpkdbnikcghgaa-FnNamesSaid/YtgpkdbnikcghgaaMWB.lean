/- Words of the walks of laws. -/
import Derived.Test.YtgpkdbnikcghgaaMWD
namespace Go.Proofs.Ytgpkdbnikcghgaa.MD
open Go.RowKit Go.Proofs.YtgpkdbnikcghgaaW.PrintWords Go.Proofs.YtgpkdbnikcghgaaW.PrintLast Go.Proofs.YtgpkdbnikcghgaaW.PrintMore Go.Proofs.Ytgpkdbnikcghgaa.MWords Go.Proofs.Ytgpkdbnikcghgaa.MPD
set_option linter.unusedVariables false
set_option linter.unusedSimpArgs false
section
variable {w:World} {A:Option Addr} {c:Nat} {l:List Int}
theorem YK (hr:Kd.C (Kd.int .u8) w A l.length l) (hc:l.length≤c):Calls Try.prog 32 #[.slice A l.length c] w (fun e w'=>e = .returned (.bool (decide ((l.length:Int)>1048576)))∧Below w.heap.size w w'):=
 (Mf.calls A c l _ w hr hc (ahk l)).mono (fun e w' ⟨he,m,hd⟩=>⟨he,by subst hd;exact gy (Below.refl _ _) m⟩)
theorem ajN {A':Option Addr} {c':Nat} (hr:Kd.C (Kd.int .u8) w A l.length l) (hc:l.length≤c) (hr':Kd.C (Kd.int .u8) w A' l.length l) (hc':l.length≤c') (hl:l.length≤1048576):Calls Try.prog 41 #[.slice A l.length c,.slice A' l.length c'] w (fun e w'=>e = .returned (.bool true)∧Below w.heap.size w w'):=by
 obtain⟨K,hk⟩:=ape l hl;exact(qp.calls K A c l A' c' l true w hr hc hr' hc' (hk K (Nat.le_refl _))).mono (fun e w' ⟨he,m,hd⟩=>⟨he,by subst hd;exact gy (Below.refl _ _) m⟩)
end
theorem nX {n:Nat}:∀k,n≤k→¬(fun _:Nat=>False) k:=fun _ _ h=>h
end Go.Proofs.Ytgpkdbnikcghgaa.MD
