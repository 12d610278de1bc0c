/- What FnNames says of disks in plain lists. -/
import Derived.Test.YtgpkdbnikcghgaaMPF
import Derived.Test.YtgpkdbnikcghgaaMPN
import Derived.Test.YtgpkdbnikcghgaaMPD2
set_option linter.unusedVariables false
set_option linter.unusedSimpArgs false
namespace Go.Proofs.Ytgpkdbnikcghgaa.MPD
open Go.RowKit Go.Proofs.Ytgpkdbnikcghgaa.MD Go.Proofs.YtgpkdbnikcghgaaW.PrintWords Go.Proofs.YtgpkdbnikcghgaaW.PrintLast Go.Proofs.YtgpkdbnikcghgaaW.PrintMore
abbrev tf (d:nw):Bool:=b8 d.f0 d.f1 d.f2 d.f3
section
variable {d n:nw} {nm nq:ByteArray} {r:lH}
theorem aoX (hr:rz d.f0 d.f1 d.f2 d.f3 nm nq=r) (h:(r.2.2.2.2 != 0)=true):hU r=d:=by
 subst hr;revert h;unfold rz;split
 ·exact fun _=>rfl
 ·split
  ·split
   ·exact fun _=>rfl
   ·rcases AM d.f0 d.f1 d.f2 d.f3 d.f0 (renamed d.f1 nm nq) d.f2 d.f3 with ⟨_,e⟩|⟨_,e⟩<;>rw[e]
    ·exact fun h=>absurd (show ((0:Int) != 0)=true from h) (by decide)
    ·exact fun _=>rfl
  ·exact fun _=>rfl
theorem aoW (hr:rz d.f0 d.f1 d.f2 d.f3 nm nq=r) (h:r.2.2.2.2=0):sO d∧sO (hU r)∧(hU r).f2=d.f2∧(∃e ∈ (hU r).f1,e.f0=nq)∧∃b,oM (tf d) d.f0 d.f1 nm=(b,true)∧oM (tf (hU r)) (hU r).f0 (hU r).f1 nq=(b,true)∧(oM (tf (hU r)) (hU r).f0 (hU r).f1 nm).2=(nm.toList == nq.toList):=by
 subst hr;revert h;unfold rz;split
 ·exact fun h=>absurd (show (1:Int)=0 from h) (by decide)
 ·split
  ·rename_i hc;obtain⟨hd,e,he,hn⟩:=PV hc;obtain⟨x,hx,hxe⟩:=(hd.e1.2.1 e he).2;have hb:=XN hd he hn hx hxe;split
   ·rename_i hq;have hq:=UC hq;exact fun _=>⟨hd,hd,rfl,⟨e,he,hn.trans hq⟩,x.f1,hb,hq▸hb,(congrArg Prod.snd hb).trans (by rw[hq];exact(beq_self_eq_true _).symm)⟩
   ·rename_i hq
    rcases AM d.f0 d.f1 d.f2 d.f3 d.f0 (renamed d.f1 nm nq) d.f2 d.f3 with ⟨hk,e1⟩|⟨_,e1⟩<;>rw[e1]
    ·intro _;have hm:(⟨nq,jY d.f1 nm⟩:gV) ∈ renamed d.f1 nm nq:=(Iv _ _).mem_iff.2 (by simp);have hi:=(Iq hd.e1 he hn).1
     have xF:x ∈ kept d.f0 (renamed d.f1 nm nq) d.f2:=by
      rw[DG];refine List.mem_filter.2 ⟨hx,?_⟩;rw[Bool.or_eq_true,uG];exact Or.inl ⟨_,hm,hi.trans hxe.symm⟩
     refine⟨hd,hk,rfl,⟨_,hm,rfl⟩,x.f1,hb,XN hk hm rfl xF (hxe.trans hi.symm),?_⟩
     have hne:∀e ∈ renamed d.f1 nm nq,e.f0≠nm:=fun e he hc=>by
      rcases DD he with rfl|he
      ·exact hq (congrArg ByteArray.toList hc).symm
      ·exact UU _ _ _ (Ck he) (congrArg ByteArray.toList hc)
     show (oM _ _ (renamed d.f1 nm nq) nm).2=_;rw[XO hne];exact(beq_eq_false_iff_ne.2 hq).symm
    ·exact fun h=>absurd (show (4:Int)=0 from h) (by decide)
  ·rename_i hc;exact fun h=>absurd h hc
theorem aoU (h:sO n) {e:gV} (he:e ∈ n.f1) (hn:e.f0=nq) (hr:sm n.f0 n.f1 n.f2 n.f3 nq=r):r.2.2.2.2=0∧sO (hU r)∧(hU r).f2=n.f2∧oM (tf (hU r)) (hU r).f0 (hU r).f1 nq=([],false):=by
 subst hr;obtain⟨e1,hk⟩:=aoV h he hn;rw[e1];exact⟨rfl,hk,rfl,XO (fun e he hc=>UU _ _ _ he (congrArg ByteArray.toList hc))⟩
theorem aox {d:nw} (h:sO d):(Bi (tf d) d.f1).length=d.f1.length:=by
 unfold Bi;rw[if_pos (xh.2 h)];simp
theorem Yu (h:sO d) {f:List eE × List gV × List gV × Int} (hf:pc (tf d) d.f0 d.f1 d.f2 d.f3 0=f):sO (MY f)∧(Bi (tf (MY f)) (MY f).f1).length=d.f2.length:=by
 subst hf
 have ho:sO (MY (pc (tf d) d.f0 d.f1 d.f2 d.f3 0)):=by
  rw[QC h (Int.le_refl 0)];exact acq h (Int.le_refl 0)
 refine⟨ho,(aox ho).trans ?_⟩;rw[QC h (Int.le_refl 0)];rfl
end
end Go.Proofs.Ytgpkdbnikcghgaa.MPD
