/- DotLess of the program and of the reference answer the same, for all dots. No condition. -/
import Derived.Test.YtjpemgjnpbipnaaMFnExactDotLessDef
set_option linter.unusedVariables false
set_option linter.unusedSimpArgs false
namespace Go.Proofs.Ytjpemgjnpbipnaa.MPureFnExactDotLess
open Go.RowKit Go.Proofs.Ytjpemgjnpbipnaa.MFnExactDotLess Go.Proofs.YtjpemgjnpbipnaaW.PrintWords Go.Proofs.YtjpemgjnpbipnaaW.PrintLast Go.Proofs.YtjpemgjnpbipnaaW.PrintMore

theorem FnExactDotLess : laws_FnExactDotLess.Pure := by
  intro x0 x1 h0 h1
  simp only [laws_FnExactDotLess.f, spec_DotLess.f, impl_DotLess.f, laws_toDot.f, Option.bind_some]
  (repeat' split) <;> simp_all

end Go.Proofs.Ytjpemgjnpbipnaa.MPureFnExactDotLess
