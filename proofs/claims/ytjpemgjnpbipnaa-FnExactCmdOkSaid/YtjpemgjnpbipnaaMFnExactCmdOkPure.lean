/- CmdOk of the program and of the reference answer the same, for all commands. No condition. -/
import Derived.Test.YtjpemgjnpbipnaaMFnExactCmdOkDef
set_option linter.unusedVariables false
set_option linter.unusedSimpArgs false
namespace Go.Proofs.Ytjpemgjnpbipnaa.MPureFnExactCmdOk
open Go.RowKit Go.Proofs.Ytjpemgjnpbipnaa.MFnExactCmdOk Go.Proofs.YtjpemgjnpbipnaaW.PrintWords Go.Proofs.YtjpemgjnpbipnaaW.PrintLast Go.Proofs.YtjpemgjnpbipnaaW.PrintMore

theorem l1In_eq (a b c : Int) : spec_l1In.f a b c = some (decide (b ≤ a) && decide (a ≤ c)) := by
  unfold spec_l1In.f
  by_cases h : a ≥ b
  · rw [if_pos h, decide_eq_true (show b ≤ a from h), Bool.true_and]
  · rw [if_neg h, decide_eq_false (show ¬ b ≤ a from h), Bool.false_and]

theorem in_eq (a b c : Int) : impl_in.f a b c = some (decide (b ≤ a) && decide (a ≤ c)) := by
  unfold impl_in.f
  by_cases h : a ≥ b
  · rw [if_pos h, decide_eq_true (show b ≤ a from h), Bool.true_and]
  · rw [if_neg h, decide_eq_false (show ¬ b ≤ a from h), Bool.false_and]

theorem ite_and (a b : Bool) : (if a = true then some b else some false) = some (a && b) := by cases a <;> rfl
theorem ite_some {c : Prop} [Decidable c] (a b : Bool) : (if c then some a else some b) = some (if c then a else b) := by split <;> rfl
theorem neq_self (b : Bool) : (if (b != b) = true then (some false : Option Bool) else some true) = some true := by cases b <;> rfl

theorem FnExactCmdOk : laws_FnExactCmdOk.Pure := by
  intro x0 h0
  have ⟨b, hb⟩ : ∃ b, spec_CmdOk.f x0.f0 x0.f1 x0.f2 = some b := by
    simp only [spec_CmdOk.f, spec_PairOk.f, l1In_eq, Option.bind_some, Bool.false_eq_true, if_false]
    (repeat' split) <;> first | exact ⟨_, rfl⟩ | (simp only [Option.bind_some]; (repeat' split) <;> exact ⟨_, rfl⟩)
  have e : impl_CmdOk.f x0.f0 x0.f1 x0.f2 = spec_CmdOk.f x0.f0 x0.f1 x0.f2 := by
    simp only [impl_CmdOk.f, spec_CmdOk.f, spec_PairOk.f, impl_keyOk.f, in_eq, l1In_eq, Option.bind_some, Bool.false_eq_true, if_false]
    (repeat' split) <;> first | rfl | simp_all
  rw [hb] at e
  have ⟨n, hn⟩ : ∃ n, laws_szCmd.f x0.f0 x0.f1 x0.f2 1048576 = some n := by
    simp only [laws_szCmd.f]
    (repeat' split) <;> exact ⟨_, rfl⟩
  simp only [laws_FnExactCmdOk.f, laws_toCmd.f, Option.bind_some, e, hb, hn, neq_self]
  split <;> rfl

end Go.Proofs.Ytjpemgjnpbipnaa.MPureFnExactCmdOk
