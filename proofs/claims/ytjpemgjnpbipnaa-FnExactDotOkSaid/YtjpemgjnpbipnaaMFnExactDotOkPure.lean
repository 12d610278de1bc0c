/- DotOk of the program and of the reference answer the same, for all dots. No condition. -/
import Derived.Test.YtjpemgjnpbipnaaMFnExactDotOkDef
set_option linter.unusedVariables false
set_option linter.unusedSimpArgs false
namespace Go.Proofs.Ytjpemgjnpbipnaa.MPureFnExactDotOk
open Go.RowKit Go.Proofs.Ytjpemgjnpbipnaa.MFnExactDotOk Go.Proofs.YtjpemgjnpbipnaaW.PrintWords Go.Proofs.YtjpemgjnpbipnaaW.PrintLast Go.Proofs.YtjpemgjnpbipnaaW.PrintMore

theorem l1In_eq (a b c : Int) : spec_l1In.f a b c = some (decide (b ≤ a) && decide (a ≤ c)) := by
  unfold spec_l1In.f
  by_cases h : a ≥ b
  · rw [if_pos h, decide_eq_true (show b ≤ a from h), Bool.true_and]
  · rw [if_neg h, decide_eq_false (show ¬ b ≤ a from h), Bool.false_and]

theorem in_eq (a b c : Int) : impl_in.f a b c = some (decide (b ≤ a) && decide (a ≤ c)) := by
  unfold impl_in.f
  by_cases h : a ≥ b
  · rw [if_pos h, decide_eq_true (show b ≤ a from h), Bool.true_and]
  · rw [if_neg h, decide_eq_false (show ¬ b ≤ a from h), Bool.false_and]

theorem ite_and (a b : Bool) : (if a = true then some b else some false) = some (a && b) := by cases a <;> rfl
theorem ite_some {c : Prop} [Decidable c] (a b : Bool) : (if c then some a else some b) = some (if c then a else b) := by split <;> rfl
theorem neq_self (b : Bool) : (if (b != b) = true then (some false : Option Bool) else some true) = some true := by cases b <;> rfl

theorem FnExactDotOk : laws_FnExactDotOk.Pure := by
  intro x0 h0
  simp only [laws_FnExactDotOk.f, spec_DotOk.f, impl_DotOk.f, laws_toDot.f, l1In_eq, in_eq, Option.bind_some, ite_and, neq_self]

end Go.Proofs.Ytjpemgjnpbipnaa.MPureFnExactDotOk
