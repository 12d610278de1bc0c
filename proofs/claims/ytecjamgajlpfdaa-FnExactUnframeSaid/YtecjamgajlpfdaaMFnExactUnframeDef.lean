/- What the law FnExactUnframe says of plain values: its Pure; and that its parameters are read as such values. Written by mp.py. -/
import Derived.Test.YtecjamgajlpfdaaMFnExactUnframex4
import Derived.Test.YtecjamgajlpfdaaVMOpens
namespace Go.Proofs.Ytecjamgajlpfdaa.MFnExactUnframe
open Go.RowKit Go.Proofs.YtecjamgajlpfdaaW.PrintWords Go.Proofs.YtecjamgajlpfdaaW.PrintLast Go.Proofs.YtecjamgajlpfdaaW.PrintMore Go.Proofs.Ytecjamgajlpfdaa.MOpens
set_option linter.unusedVariables false
/-- THE ONE PURE STATEMENT of laws_FnExactUnframe. -/
def laws_FnExactUnframe.Pure : Prop := ∀ (x0 : List Int) (x1 : Int), (x0.length ≤ maxLen ∧ ∀ y0_ ∈ x0, (Lit.int .u8 y0_).wf = true) → (Lit.int .i64 x1).wf = true → ∃ k, laws_FnExactUnframe.f k x0 x1 = some true
end Go.Proofs.Ytecjamgajlpfdaa.MFnExactUnframe
