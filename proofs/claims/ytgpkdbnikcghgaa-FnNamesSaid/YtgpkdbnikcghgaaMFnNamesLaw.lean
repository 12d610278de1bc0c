/- The law FnNames: for every input it returns true, and its arguments read as they did: the given statement FnNamesSaid, with no condition of its own. Written by mp.py, and turned to the walk by hand. -/
import Derived.Test.YtgpkdbnikcghgaaRows
import Derived.Test.YtgpkdbnikcghgaaMWR
import Derived.Test.YtgpkdbnikcghgaaVAll
import Derived.WalkKit
import Derived.ProofKit
import Derived.OpenShut
import Derived.ShutString
import Derived.ChangeOld
import Derived.Below
import Derived.SizedLaws
namespace Go.Proofs.Ytgpkdbnikcghgaa.fnNames
open Go.ChangeShapes Go.WideShapes Go.ChangeAt Go.RowKit
open Go.ChangeMaps (open_string shut_string)
open Go.Proofs.Ytgpkdbnikcghgaa.MOpens Go.Proofs.Ytgpkdbnikcghgaa.MD
set_option linter.unusedVariables false
theorem own:ownKnob Try.prog.godebug=none:=by kernel_rfl
theorem laidOut:laidOutB Try.prog=true:=by kernel_rfl
set_option maxRecDepth 100000 in
theorem lifted (os:Os) (started:os.Started) (H:Type) (enc:TypeId × Value→H) :
 ReturnsInHanded {} Try.checked os 10 .any (Rows.fnNamesSpec.pre6 enc Try.prog Try.f10 Rows.fnNamesRow.domain false) (Rows.fnNamesSpec.post enc Try.prog Try.f10 false true false false):=by
 refine returnsInHanded_of_change_sized (C:=Try.checked) own started (by kernel_rfl) Try.func10
  (ChangeSpec.witness6 (enc:=enc) (C:=Try.checked) false ⟨#[],#[.slice none 0 0],[]⟩ 8 (by kernel_rfl) (by kernel_rfl) (by kernel_rfl) (by kernel_rfl)) ?_
 intro W base args ds gs before abo hW hcnd abm _;have hsz:(DataW.weightsEach Try.prog (Try.f10.params.toList++Rows.fnNamesSpec.plain.varTypes Try.prog) (ds++gs)).all (·≤reachBytes)=true:=abm;have hval:∀(j:Nat) t v,Try.f10.params[j]? = some t→args[j]? = some v→Value.okWide Try.prog W .any base t v:=abo;have hW':=hW;obtain⟨p,q,YG,hV,rfl,hfz,hnd⟩:=hW;have hA:DataW.TrodAll enc Try.prog W 0 (fun _=>true) true Try.f10.params.toList args.toList ds p:=YG;rw[Try.params10]at hA hval hsz;obtain⟨v0,vs0,d0,ds0,p0,q0,hargs,rfl,rfl,h0,r0⟩:=trodAll_cons hA;obtain⟨rfl,rfl,rfl⟩:=trodAll_nil r0;obtain rfl:args=#[v0]:=by cases args;simp_all
 obtain⟨rfl,rfl⟩:=trodVars_none hV;obtain⟨a0,aAW,arU,rfl⟩:=okWide_slice Try.underlying41 (hval 0 41 v0 rfl rfl);have k0:=h0;have lt0:∀x ∈ p0,x.block<W.heap.size:=by obtain⟨m,hm⟩:=k0;exact DataW.trod_lt m _ _ _ hm
 obtain⟨x0,hK0,w0⟩:=nt.use (nt.slice Try.underlying41 (by kernel_rfl) (nt.int Try.underlying5)) h0;obtain⟨rfl,l0,g0⟩:=apk hK0;clear YG abo abm hsz;refine(ajL g0 l0).mono fun e W' ⟨he,ahi⟩=>?_
 have bel:=ahi;subst he;exact⟨_,rfl,_,_,_,[],_,[],hW',trodAll_mk1 (shut_bool Try.underlying4 _),(trodAll_cons_mk (Below.trod laidOut (by kernel_rfl) (of_decide_eq_true (by kernel_rfl)) k0 bel lt0) trodAll_mk0),rfl,bel.frame _,fun h=>by cases h⟩
theorem aoD:Rows.fnNamesRow.holds Try.pinned (OpenSpec.ofChange Rows.fnNamesSpec):=
 OpenClaim.holds_of_wide 10 Try.f10 rfl rfl rfl rfl rfl rfl rfl ⟨rfl,rfl,rfl,rfl,rfl⟩ rfl rfl rfl rfl rfl (by kernel_rfl) Try.func10 (by kernel_rfl)
  (of_decide_eq_true (by kernel_rfl)) (by unfold Func.isWrapper;first|(rw[if_pos (by decide +kernel)];kernel_rfl)|(rw[if_neg (by decide +kernel)];exact⟨rfl,rfl⟩))
  (fun os started H enc _=>lifted os started H enc)
theorem proved:Rows.FnNamesSaid:=aoD
end Go.Proofs.Ytgpkdbnikcghgaa.fnNames
namespace Go.Proofs.Ytgpkdbnikcghgaa
theorem fnNames_holds:Rows.FnNamesSaid:=fnNames.proved
#print axioms fnNames_holds
end Go.Proofs.Ytgpkdbnikcghgaa
