/- The law FnExactDiskNew: for every input it returns true, and its arguments read as they did: the given statement FnExactDiskNewSaid, with no condition of its own. Written by mp.py out of the walk and the Pure. -/
import Derived.Test.YtgbejjeephipeaaRows
import Derived.Test.YtgbejjeephipeaaMFnExactDiskNewDef
import Derived.Test.YtgbejjeephipeaaMFnExactDiskNewPure
import Derived.WalkKit
import Derived.ProofKit
import Derived.OpenShut
import Derived.ShutString
import Derived.ChangeOld
import Derived.Below
import Derived.SizedLaws
namespace Go.Proofs.Ytgbejjeephipeaa.fnExactDiskNew
open Go.ChangeShapes Go.WideShapes Go.ChangeAt Go.RowKit
open Go.ChangeMaps (open_string shut_string)
open Go.Proofs.Ytgbejjeephipeaa.MOpens Go.Proofs.Ytgbejjeephipeaa.MFnExactDiskNew
set_option linter.unusedVariables false
theorem own : ownKnob Try.prog.godebug = none := by kernel_rfl
set_option maxRecDepth 100000 in
theorem lifted (os : Os) (started : os.Started) (H : Type) (enc : TypeId × Value → H) :
    ReturnsInHanded {} Try.checked os 8 .any (Rows.fnExactDiskNewSpec.pre6 enc Try.prog Try.f8 Rows.fnExactDiskNewRow.domain false) (Rows.fnExactDiskNewSpec.post enc Try.prog Try.f8 false true false false) := by
  refine returnsInHanded_of_change_sized (C := Try.checked) own started (by kernel_rfl) Try.func8
    (ChangeSpec.witness6 (enc := enc) (C := Try.checked) false ⟨#[], #[], []⟩ 8 (by kernel_rfl) (by kernel_rfl) (by kernel_rfl) (by kernel_rfl)) ?_
  intro W base args ds gs before hval0 hW hcnd hsz0 _
  have hsz : (DataW.weightsEach Try.prog (Try.f8.params.toList ++ Rows.fnExactDiskNewSpec.plain.varTypes Try.prog) (ds ++ gs)).all (· ≤ reachBytes) = true := hsz0
  have hval : ∀ (j : Nat) t v, Try.f8.params[j]? = some t → args[j]? = some v → Value.okWide Try.prog W .any base t v := hval0
  have hW' := hW
  obtain ⟨p, q, hA0, hV, rfl, hfz, hnd⟩ := hW
  have hA : DataW.TrodAll enc Try.prog W 0 (fun _ => true) true Try.f8.params.toList args.toList ds p := hA0
  rw [Try.params8] at hA hval hsz
  obtain ⟨rfl, rfl, rfl⟩ := trodAll_none hA
  obtain ⟨rfl, rfl⟩ := trodVars_none hV
  clear hA0 hval0 hsz0 hsz
  obtain ⟨k, h⟩ := MPureFnExactDiskNew.FnExactDiskNew 
  refine (laws_FnExactDiskNew.calls k  true W  rfl h).mono fun e W' ⟨he, bel0⟩ => ?_
  have bel := bel0
  subst he
  exact ⟨_, rfl, _, _, _, [], _, [], hW', trodAll_mk1 (shut_bool Try.underlying4 _), trodAll_mk0, rfl, bel.frame _, fun h => by cases h⟩
theorem over : Rows.fnExactDiskNewRow.holds Try.pinned (OpenSpec.ofChange Rows.fnExactDiskNewSpec) :=
  OpenClaim.holds_of_wide 8 Try.f8 rfl rfl rfl rfl rfl rfl rfl ⟨rfl, rfl, rfl, rfl, rfl⟩ rfl rfl rfl rfl rfl (by kernel_rfl) Try.func8 (by kernel_rfl)
    (of_decide_eq_true (by kernel_rfl)) (by unfold Func.isWrapper; first | (rw [if_pos (by decide +kernel)]; kernel_rfl) | (rw [if_neg (by decide +kernel)]; exact ⟨rfl, rfl⟩))
    (fun os started H enc _ => lifted os started H enc)
theorem proved : Rows.FnExactDiskNewSaid := over
end Go.Proofs.Ytgbejjeephipeaa.fnExactDiskNew
namespace Go.Proofs.Ytgbejjeephipeaa
/-- The row, under a short name, for the claim. -/
theorem fnExactDiskNew_holds : Rows.FnExactDiskNewSaid := fnExactDiskNew.proved
#print axioms fnExactDiskNew_holds
end Go.Proofs.Ytgbejjeephipeaa
