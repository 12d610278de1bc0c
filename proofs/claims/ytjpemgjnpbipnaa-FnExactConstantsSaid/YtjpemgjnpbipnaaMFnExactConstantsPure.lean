/- The program's constants are the reference's. No condition. -/
import Derived.Test.YtjpemgjnpbipnaaMFnExactConstantsDef
set_option linter.unusedVariables false
set_option linter.unusedSimpArgs false
namespace Go.Proofs.Ytjpemgjnpbipnaa.MPureFnExactConstants
open Go.RowKit Go.Proofs.Ytjpemgjnpbipnaa.MFnExactConstants Go.Proofs.YtjpemgjnpbipnaaW.PrintWords Go.Proofs.YtjpemgjnpbipnaaW.PrintLast Go.Proofs.YtjpemgjnpbipnaaW.PrintMore

theorem FnExactConstants : laws_FnExactConstants.Pure := by
  unfold laws_FnExactConstants.Pure laws_FnExactConstants.f
  simp

end Go.Proofs.Ytjpemgjnpbipnaa.MPureFnExactConstants
