/- The law FnExactRename: for every input it returns true, and its arguments read as they did: the given statement FnExactRenameSaid, with no condition of its own. Written by mp.py out of the walk and the Pure. -/
import Derived.Test.YtgpkdbnikcghgaaRows
import Derived.Test.YtgpkdbnikcghgaaMFnExactRenameDef
import Derived.Test.YtgpkdbnikcghgaaMFnExactRenamePure
import Derived.WalkKit
import Derived.ProofKit
import Derived.OpenShut
import Derived.ShutString
import Derived.ChangeOld
import Derived.Below
import Derived.SizedLaws
namespace Go.Proofs.Ytgpkdbnikcghgaa.fnExactRename
open Go.ChangeShapes Go.WideShapes Go.ChangeAt Go.RowKit
open Go.ChangeMaps (open_string shut_string)
open Go.Proofs.Ytgpkdbnikcghgaa.MOpens Go.Proofs.Ytgpkdbnikcghgaa.MD
set_option linter.unusedVariables false
theorem own:ownKnob Try.prog.godebug=none:=by kernel_rfl
theorem laidOut:laidOutB Try.prog=true:=by kernel_rfl
set_option maxRecDepth 100000 in
theorem lifted (os:Os) (started:os.Started) (H:Type) (enc:TypeId × Value→H) :
 ReturnsInHanded {} Try.checked os 3 .any (Rows.fnExactRenameSpec.pre6 enc Try.prog Try.f3 Rows.fnExactRenameRow.domain false) (Rows.fnExactRenameSpec.post enc Try.prog Try.f3 false true false false):=by
 refine returnsInHanded_of_change_sized (C:=Try.checked) own started (by kernel_rfl) Try.func3
  (ChangeSpec.witness6 (enc:=enc) (C:=Try.checked) false ⟨#[],#[.agg #[.slice none 0 0,.slice none 0 0,.slice none 0 0,.int .i64 0],.string ByteArray.empty,.string ByteArray.empty],[]⟩ 8 (by kernel_rfl) (by kernel_rfl) (by kernel_rfl) (by kernel_rfl)) ?_
 intro W base args ds gs before GA hW hcnd Gx _;have hsz:(DataW.weightsEach Try.prog (Try.f3.params.toList++Rows.fnExactRenameSpec.plain.varTypes Try.prog) (ds++gs)).all (·≤reachBytes)=true:=Gx;have hval:∀(j:Nat) t v,Try.f3.params[j]? = some t→args[j]? = some v→Value.okWide Try.prog W .any base t v:=GA;have hW':=hW;obtain⟨p,q,F9,hV,rfl,hfz,hnd⟩:=hW;have hA:DataW.TrodAll enc Try.prog W 0 (fun _=>true) true Try.f3.params.toList args.toList ds p:=F9;rw[Try.params3]at hA hval hsz;obtain⟨v0,vs0,d0,ds0,p0,q0,hargs,rfl,rfl,h0,r0⟩:=trodAll_cons hA;obtain⟨v1,vs1,d1,ds1,p1,q1,rfl,rfl,rfl,h1,r1⟩:=trodAll_cons r0;obtain⟨v2,vs2,d2,ds2,p2,q2,rfl,rfl,rfl,h2,r2⟩:=trodAll_cons r1;obtain⟨rfl,rfl,rfl⟩:=trodAll_nil r2;obtain rfl:args=#[v0,v1,v2]:=by cases args;simp_all
 obtain⟨rfl,rfl⟩:=trodVars_none hV;obtain⟨cs0,rfl,_⟩:=okWide_struct Try.underlying25 (hval 0 25 v0 rfl rfl);have k0:=h0;have Qv:∀x ∈ p0,x.block<W.heap.size:=by obtain⟨m,hm⟩:=k0;exact DataW.trod_lt m _ _ _ hm
 obtain⟨x0,PM,w0⟩:=dD.use QF h0;obtain⟨aE,az,aw,ax,aA,aC,e0,U,PG,ab,PH,af,PI⟩:=ade PM;obtain rfl:=abK e0;obtain⟨x1,rfl,rfl,rfl,y1⟩:=open_string Try.underlying9 (hval 1 9 v1 rfl rfl) h1
 have w1:x1.size≤140737488351232:=by
  have z:=sized_string hsz (j:=1) (t:=9) rfl rfl;rw[Array.length_toList]at z;exact z
 obtain⟨x2,rfl,rfl,rfl,y2⟩:=open_string Try.underlying9 (hval 2 9 v2 rfl rfl) h2
 have w2:x2.size≤140737488351232:=by
  have z:=sized_string hsz (j:=2) (t:=9) rfl rfl;rw[Array.length_toList]at z;exact z
 clear F9 GA Gx hsz;obtain⟨k,h⟩:=MPureFnExactRename.avH x0 x1 x2 w0 w1 w2;refine(iD.calls k _ _ x0.f0 _ _ x0.f1 _ _ x0.f2 x0.f3 x1 x2 true W PG U PH ab PI af rfl h).mono fun e W' ⟨he,Pg⟩=>?_
 have bel:=Pg;subst he;exact⟨_,rfl,_,_,_,[],_,[],hW',trodAll_mk1 (shut_bool Try.underlying4 _),(trodAll_cons_mk (Below.trod laidOut (by kernel_rfl) (of_decide_eq_true (by kernel_rfl)) k0 bel Qv) (trodAll_cons_mk (shut_string Try.underlying9 y1) (trodAll_cons_mk (shut_string Try.underlying9 y2) trodAll_mk0))),rfl,bel.frame _,fun h=>by cases h⟩
theorem QH:Rows.fnExactRenameRow.holds Try.pinned (OpenSpec.ofChange Rows.fnExactRenameSpec):=
 OpenClaim.holds_of_wide 3 Try.f3 rfl rfl rfl rfl rfl rfl rfl ⟨rfl,rfl,rfl,rfl,rfl⟩ rfl rfl rfl rfl rfl (by kernel_rfl) Try.func3 (by kernel_rfl)
  (of_decide_eq_true (by kernel_rfl)) (by unfold Func.isWrapper;first|(rw[if_pos (by decide +kernel)];kernel_rfl)|(rw[if_neg (by decide +kernel)];exact⟨rfl,rfl⟩))
  (fun os started H enc _=>lifted os started H enc)
theorem proved:Rows.FnExactRenameSaid:=QH
end Go.Proofs.Ytgpkdbnikcghgaa.fnExactRename
namespace Go.Proofs.Ytgpkdbnikcghgaa
theorem fnExactRename_holds:Rows.FnExactRenameSaid:=fnExactRename.proved
#print axioms fnExactRename_holds
end Go.Proofs.Ytgpkdbnikcghgaa
