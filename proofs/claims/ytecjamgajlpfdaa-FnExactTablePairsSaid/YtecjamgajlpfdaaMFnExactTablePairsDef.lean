/- What the law FnExactTablePairs says of plain values: its Pure; and that its parameters are read as such values. Written by mp.py. -/
import Derived.Test.YtecjamgajlpfdaaMFnExactTablePairsx20
import Derived.Test.YtecjamgajlpfdaaVMOpens
namespace Go.Proofs.Ytecjamgajlpfdaa.MFnExactTablePairs
open Go.RowKit Go.Proofs.YtecjamgajlpfdaaW.PrintWords Go.Proofs.YtecjamgajlpfdaaW.PrintLast Go.Proofs.YtecjamgajlpfdaaW.PrintMore Go.Proofs.Ytecjamgajlpfdaa.MOpens
set_option linter.unusedVariables false
/-- THE ONE PURE STATEMENT of laws_FnExactTablePairs. -/
def laws_FnExactTablePairs.Pure : Prop := ∀ (x0 : List Int), (x0.length ≤ maxLen ∧ ∀ y0_ ∈ x0, (Lit.int .u8 y0_).wf = true) → ∃ k, laws_FnExactTablePairs.f k x0 = some true
end Go.Proofs.Ytecjamgajlpfdaa.MFnExactTablePairs
