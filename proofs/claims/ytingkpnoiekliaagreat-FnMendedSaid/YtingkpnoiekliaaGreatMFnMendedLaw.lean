/- The law FnMended: for every input it returns true, and its argument reads as it did: the given statement FnMendedSaid, with no condition of its own. Written after mp.py's rows, with the walk by hand. -/
import Derived.Test.YtingkpnoiekliaaGreatRows
import Derived.Test.YtingkpnoiekliaaGreatG24
import Derived.Test.YtingkpnoiekliaaGreatVAll
import Derived.WalkKit
import Derived.ProofKit
import Derived.OpenShut
import Derived.ShutString
import Derived.ChangeOld
import Derived.Below
import Derived.SizedLaws
namespace Go.Proofs.YtingkpnoiekliaaGreat.fnMended
open Go.ChangeShapes Go.WideShapes Go.ChangeAt Go.RowKit
open Go.ChangeMaps (open_string shut_string)
open Go.Proofs.YtingkpnoiekliaaGreat.MOpens Go.Proofs.YtingkpnoiekliaaGreat.MZ
set_option linter.unusedVariables false
theorem own:ownKnob Tryz.prog.godebug=none:=by kernel_rfl
theorem laidOut:laidOutB Tryz.prog=true:=by kernel_rfl
set_option maxRecDepth 100000 in
theorem lifted (os:Os) (started:os.Started) (H:Type) (enc:TypeId × Value→H) :
 ReturnsInHanded {} Tryz.checked os 3 .any (Rows.fnMendedSpec.pre6 enc Tryz.prog Tryz.f3 Rows.fnMendedRow.domain false) (Rows.fnMendedSpec.post enc Tryz.prog Tryz.f3 false true false false):=by
 refine returnsInHanded_of_change_sized (C:=Tryz.checked) own started (by kernel_rfl) Tryz.func3
  (ChangeSpec.witness6 (enc:=enc) (C:=Tryz.checked) false ⟨#[],#[.slice none 0 0],[]⟩ 8 (by kernel_rfl) (by kernel_rfl) (by kernel_rfl) (by kernel_rfl)) ?_
 intro W base args ds gs before XA hW hcnd Xw _;have hsz:(DataW.weightsEach Tryz.prog (Tryz.f3.params.toList++Rows.fnMendedSpec.plain.varTypes Tryz.prog) (ds++gs)).all (·≤reachBytes)=true:=Xw;have hval:∀(j:Nat) t v,Tryz.f3.params[j]? = some t→args[j]? = some v→Value.okWide Tryz.prog W .any base t v:=XA;have hW':=hW;obtain⟨p,q,UW,hV,rfl,hfz,hnd⟩:=hW;have hA:DataW.TrodAll enc Tryz.prog W 0 (fun _=>true) true Tryz.f3.params.toList args.toList ds p:=UW;rw[Tryz.params3]at hA hval hsz;obtain⟨v0,vs0,d0,ds0,p0,q0,hargs,rfl,rfl,h0,r0⟩:=trodAll_cons hA;obtain⟨rfl,rfl,rfl⟩:=trodAll_nil r0;obtain rfl:args=#[v0]:=by cases args;simp_all
 obtain⟨rfl,rfl⟩:=trodVars_none hV;obtain⟨a0,ayn,apm,rfl⟩:=okWide_slice Tryz.underlying22 (hval 0 22 v0 rfl rfl);have k0:=h0;have lt0:∀x ∈ p0,x.block<W.heap.size:=by obtain⟨m,hm⟩:=k0;exact DataW.trod_lt m _ _ _ hm
 obtain⟨x0,hK0,w0⟩:=lO.use (lO.slice Tryz.underlying22 (by kernel_rfl) (lO.int Tryz.underlying5)) h0;obtain⟨rfl,U,g0⟩:=amp hK0;clear UW XA Xw hsz;refine(ahg g0 U).mono fun e W' ⟨he,aeG⟩=>?_
 have bel:=aeG;subst he;exact⟨_,rfl,_,_,_,[],_,[],hW',trodAll_mk1 (shut_bool Tryz.underlying4 _),(trodAll_cons_mk (Below.trod laidOut (by kernel_rfl) (of_decide_eq_true (by kernel_rfl)) k0 bel lt0) trodAll_mk0),rfl,bel.frame _,fun h=>by cases h⟩
theorem alI:Rows.fnMendedRow.holds Tryz.pinned (OpenSpec.ofChange Rows.fnMendedSpec):=
 OpenClaim.holds_of_wide 3 Tryz.f3 rfl rfl rfl rfl rfl rfl rfl ⟨rfl,rfl,rfl,rfl,rfl⟩ rfl rfl rfl rfl rfl (by kernel_rfl) Tryz.func3 (by kernel_rfl)
  (of_decide_eq_true (by kernel_rfl)) (by unfold Func.isWrapper;first|(rw[if_pos (by decide +kernel)];kernel_rfl)|(rw[if_neg (by decide +kernel)];exact⟨rfl,rfl⟩))
  (fun os started H enc _=>lifted os started H enc)
theorem proved:Rows.FnMendedSaid:=alI
end Go.Proofs.YtingkpnoiekliaaGreat.fnMended
namespace Go.Proofs.YtingkpnoiekliaaGreat
theorem fnMended_holds:Rows.FnMendedSaid:=fnMended.proved
#print axioms fnMended_holds
end Go.Proofs.YtingkpnoiekliaaGreat
