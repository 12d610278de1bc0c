/- Meet of the program and of the reference answer the same, for all commands. No condition. -/
import Derived.Test.YtjpemgjnpbipnaaMFnExactMeetDef
set_option linter.unusedVariables false
set_option linter.unusedSimpArgs false
namespace Go.Proofs.Ytjpemgjnpbipnaa.MPureFnExactMeet
open Go.RowKit Go.Proofs.Ytjpemgjnpbipnaa.MFnExactMeet Go.Proofs.YtjpemgjnpbipnaaW.PrintWords Go.Proofs.YtjpemgjnpbipnaaW.PrintLast Go.Proofs.YtjpemgjnpbipnaaW.PrintMore

theorem ite_and (a b : Bool) : (if a = true then some b else some false) = some (a && b) := by cases a <;> rfl
theorem ite_some {c : Prop} [Decidable c] (a b : Bool) : (if c then some a else some b) = some (if c then a else b) := by split <;> rfl
theorem neq_self (b : Bool) : (if (b != b) = true then (some false : Option Bool) else some true) = some true := by cases b <;> rfl

theorem FnExactMeet : laws_FnExactMeet.Pure := by
  intro x0 x1 h0 h1
  have e : impl_Meet.f x0.f0 x0.f1 x0.f2 x1.f0 x1.f1 x1.f2 = spec_Meet.f x0.f0 x0.f1 x0.f2 x1.f0 x1.f1 x1.f2 := by
    simp only [impl_Meet.f, spec_Meet.f]
    rfl
  have ⟨b, hb⟩ : ∃ b, spec_Meet.f x0.f0 x0.f1 x0.f2 x1.f0 x1.f1 x1.f2 = some b := by
    simp only [spec_Meet.f]
    (repeat' split) <;> exact ⟨_, rfl⟩
  rw [hb] at e
  simp only [laws_FnExactMeet.f, laws_toCmd.f, Option.bind_some, e, hb, neq_self]
  have hs : ∀ a b c d, ∃ n, laws_szCmd.f a b c d = some n := by
    intro a b c d
    simp only [laws_szCmd.f]
    (repeat' split) <;> exact ⟨_, rfl⟩
  obtain ⟨n, hn⟩ := hs x0.f0 x0.f1 x0.f2 1048576
  rw [hn, Option.bind_some]
  split
  · rfl
  · obtain ⟨m, hm⟩ := hs x1.f0 x1.f1 x1.f2 n
    rw [hm, Option.bind_some]
    split <;> rfl

end Go.Proofs.Ytjpemgjnpbipnaa.MPureFnExactMeet
