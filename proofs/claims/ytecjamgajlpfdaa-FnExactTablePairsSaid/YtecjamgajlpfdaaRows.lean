/-
  No cell of these rows narrows 'for every input' (looked for: loops, veiled, ifaces, maps, wideKeys, modest, calm, conditions, laid).
  DERIVED. THE GIVEN ROWS OF THIS SEAT. 4 by the template 'for every input the law returns true; each argument reads behind the call as it read before'; 0 by the template 'total and deterministic' (their statements: YtecjamgajlpfdaaTotals.lean).
  GIVEN WITH THE SEED: the statements are not yours to turn. If you find one false, say at which input.
  Laid BY PROGRAM, IN A SANDBOX (cutbox-rows.mjs): the forced cells as the released guide's own fill.sh prints them over the translation 95bcdcf657e10fc3… (all of the seat's roots in one cut). By AI agents, Wed Nov 11 2026. No macro, syntax, notation, axiom, sorry.
-/
import Derived.Test.YtecjamgajlpfdaaChecked
import GoSem.Claim
import GoSem.ClaimJoined
import GoSem.ClaimMapViews
import Derived.JoinedTies
import Derived.KernelRfl
namespace Go.Proofs.Ytecjamgajlpfdaa
/- THE CELL 'sum', in the pinned program and in every row, IS THE sha256 OF THE DUMP (.gsa) THAT YtecjamgajlpfdaaProg.lean LOADS. Nothing in Lean hashes anything: it is a label: what it is worth is what the hold of that sum in a sandbox is worth. -/
noncomputable def Try.pinned : Pinned := { name := "ytecjamgajlpfdaa", sum := "95bcdcf657e10fc3e4aa3fe62dae30fba9ae756a5b06e68666c8023be922fa6c", checked := Try.checked }
namespace Rows
def none {H : Type} : Left H := { results := [], args := [] }

/-- 'laws.FnExactUnframe': WHATEVER THE INPUT: true; the input reads as it did. -/
def fnExactUnframeSpec : ChangeSpec := { name := "fnExactUnframe", fn := fun _ => fun
  | [d1, d2] => { results := [.lit (.bool true)], args := [d1, d2] }
  | _ => none }
def fnExactUnframeRow : OpenClaim := { program := "ytecjamgajlpfdaa", sum := "95bcdcf657e10fc3e4aa3fe62dae30fba9ae756a5b06e68666c8023be922fa6c", func := "loop.example/g00184/laws.FnExactUnframe", spec := "fnExactUnframe", apart := false }
def FnExactUnframeSaid : Prop := fnExactUnframeRow.holds Try.pinned (OpenSpec.ofChange fnExactUnframeSpec)

/-- ITS FALSE NEIGHBOUR: 'it returns false'. Refute it at one input. -/
def fnExactUnframeWrong : ChangeSpec := { name := "fnExactUnframe", fn := fun _ => fun
  | [d1, d2] => { results := [.lit (.bool false)], args := [d1, d2] }
  | _ => none }
def FnExactUnframeWrongFalsely : Prop := fnExactUnframeRow.holds Try.pinned (OpenSpec.ofChange fnExactUnframeWrong)

/-- 'laws.FnExactRecords': WHATEVER THE INPUT: true; the input reads as it did. -/
def fnExactRecordsSpec : ChangeSpec := { name := "fnExactRecords", fn := fun _ => fun
  | [d] => { results := [.lit (.bool true)], args := [d] }
  | _ => none }
def fnExactRecordsRow : OpenClaim := { program := "ytecjamgajlpfdaa", sum := "95bcdcf657e10fc3e4aa3fe62dae30fba9ae756a5b06e68666c8023be922fa6c", func := "loop.example/g00184/laws.FnExactRecords", spec := "fnExactRecords", apart := false }
def FnExactRecordsSaid : Prop := fnExactRecordsRow.holds Try.pinned (OpenSpec.ofChange fnExactRecordsSpec)

/-- ITS FALSE NEIGHBOUR: 'it returns false'. Refute it at one input. -/
def fnExactRecordsWrong : ChangeSpec := { name := "fnExactRecords", fn := fun _ => fun
  | [d] => { results := [.lit (.bool false)], args := [d] }
  | _ => none }
def FnExactRecordsWrongFalsely : Prop := fnExactRecordsRow.holds Try.pinned (OpenSpec.ofChange fnExactRecordsWrong)

/-- 'laws.FnExactTablePairs': WHATEVER THE INPUT: true; the input reads as it did. -/
def fnExactTablePairsSpec : ChangeSpec := { name := "fnExactTablePairs", fn := fun _ => fun
  | [d] => { results := [.lit (.bool true)], args := [d] }
  | _ => none }
def fnExactTablePairsRow : OpenClaim := { program := "ytecjamgajlpfdaa", sum := "95bcdcf657e10fc3e4aa3fe62dae30fba9ae756a5b06e68666c8023be922fa6c", func := "loop.example/g00184/laws.FnExactTablePairs", spec := "fnExactTablePairs", apart := false }
def FnExactTablePairsSaid : Prop := fnExactTablePairsRow.holds Try.pinned (OpenSpec.ofChange fnExactTablePairsSpec)

/-- ITS FALSE NEIGHBOUR: 'it returns false'. Refute it at one input. -/
def fnExactTablePairsWrong : ChangeSpec := { name := "fnExactTablePairs", fn := fun _ => fun
  | [d] => { results := [.lit (.bool false)], args := [d] }
  | _ => none }
def FnExactTablePairsWrongFalsely : Prop := fnExactTablePairsRow.holds Try.pinned (OpenSpec.ofChange fnExactTablePairsWrong)

/-- 'laws.FnExactGraphPut': WHATEVER THE INPUT: true; the input reads as it did. -/
def fnExactGraphPutSpec : ChangeSpec := { name := "fnExactGraphPut", fn := fun _ => fun
  | [d1, d2] => { results := [.lit (.bool true)], args := [d1, d2] }
  | _ => none }
def fnExactGraphPutRow : OpenClaim := { program := "ytecjamgajlpfdaa", sum := "95bcdcf657e10fc3e4aa3fe62dae30fba9ae756a5b06e68666c8023be922fa6c", func := "loop.example/g00184/laws.FnExactGraphPut", spec := "fnExactGraphPut", apart := false }
def FnExactGraphPutSaid : Prop := fnExactGraphPutRow.holds Try.pinned (OpenSpec.ofChange fnExactGraphPutSpec)

/-- ITS FALSE NEIGHBOUR: 'it returns false'. Refute it at one input. -/
def fnExactGraphPutWrong : ChangeSpec := { name := "fnExactGraphPut", fn := fun _ => fun
  | [d1, d2] => { results := [.lit (.bool false)], args := [d1, d2] }
  | _ => none }
def FnExactGraphPutWrongFalsely : Prop := fnExactGraphPutRow.holds Try.pinned (OpenSpec.ofChange fnExactGraphPutWrong)

/- THE SECOND FORM. 'bulk': how many values and letters a reading holds, each counted each time it is reached (what is shared counts as often as it is met; a slice's spare places count too). A statement '..UptoSaid' is the law's where the arguments, and the package variables that the reading takes, are together of bulk at most 1048576: NARROWER than '..Said'. Prove '..Said' where nothing that the law and all that it calls make is longer than what came in: it says more and counts as full. Else prove '..UptoSaid'. A law counts once. -/
mutual
def uptoBulk {H : Type} : DataW H → Nat
  | .lit (.string bytes) => bytes.length + 1
  | .lit _ => 1
  | .nil => 1
  | .ptr d => uptoBulk d + 1
  | .slice elems spare => uptoBulkAll elems + uptoBulkAll spare + 1
  | .agg parts => uptoBulkAll parts + 1
  | .iface _ d => uptoBulk d + 1
  | .map entries => uptoBulkEntries entries + 1
  | .held _ => 1
def uptoBulkAll {H : Type} : List (DataW H) → Nat
  | [] => 0
  | d :: r => uptoBulk d + uptoBulkAll r
def uptoBulkEntries {H : Type} : List (Lit × DataW H) → Nat
  | [] => 0
  | x :: r => uptoBulkEntry x + uptoBulkEntries r
def uptoBulkEntry {H : Type} : Lit × DataW H → Nat
  | (.string bytes, d) => bytes.length + uptoBulk d + 1
  | (_, d) => uptoBulk d + 1
 end
def uptoSmall : (H : Type) → List (DataW H) → Bool := fun _ ds => decide (uptoBulkAll ds ≤ 1048576)
def OpenSpec.upto (s : _root_.Go.ChangeSpec) : _root_.Go.OpenSpec := { _root_.Go.OpenSpec.ofChange s with cond := some uptoSmall }

/-- 'laws.FnExactUnframe', WHERE WHAT IT READS IS OF BULK AT MOST 1048576: true; the input reads as it did. -/
def fnExactUnframeUptoRow : OpenClaim := { program := "ytecjamgajlpfdaa", sum := "95bcdcf657e10fc3e4aa3fe62dae30fba9ae756a5b06e68666c8023be922fa6c", func := "loop.example/g00184/laws.FnExactUnframe", spec := "fnExactUnframe", apart := false, narrowed := true }
def FnExactUnframeUptoSaid : Prop := fnExactUnframeUptoRow.holds Try.pinned (OpenSpec.upto fnExactUnframeSpec)

/-- 'laws.FnExactRecords', WHERE WHAT IT READS IS OF BULK AT MOST 1048576: true; the input reads as it did. -/
def fnExactRecordsUptoRow : OpenClaim := { program := "ytecjamgajlpfdaa", sum := "95bcdcf657e10fc3e4aa3fe62dae30fba9ae756a5b06e68666c8023be922fa6c", func := "loop.example/g00184/laws.FnExactRecords", spec := "fnExactRecords", apart := false, narrowed := true }
def FnExactRecordsUptoSaid : Prop := fnExactRecordsUptoRow.holds Try.pinned (OpenSpec.upto fnExactRecordsSpec)

/-- 'laws.FnExactTablePairs', WHERE WHAT IT READS IS OF BULK AT MOST 1048576: true; the input reads as it did. -/
def fnExactTablePairsUptoRow : OpenClaim := { program := "ytecjamgajlpfdaa", sum := "95bcdcf657e10fc3e4aa3fe62dae30fba9ae756a5b06e68666c8023be922fa6c", func := "loop.example/g00184/laws.FnExactTablePairs", spec := "fnExactTablePairs", apart := false, narrowed := true }
def FnExactTablePairsUptoSaid : Prop := fnExactTablePairsUptoRow.holds Try.pinned (OpenSpec.upto fnExactTablePairsSpec)

/-- 'laws.FnExactGraphPut', WHERE WHAT IT READS IS OF BULK AT MOST 1048576: true; the input reads as it did. -/
def fnExactGraphPutUptoRow : OpenClaim := { program := "ytecjamgajlpfdaa", sum := "95bcdcf657e10fc3e4aa3fe62dae30fba9ae756a5b06e68666c8023be922fa6c", func := "loop.example/g00184/laws.FnExactGraphPut", spec := "fnExactGraphPut", apart := false, narrowed := true }
def FnExactGraphPutUptoSaid : Prop := fnExactGraphPutUptoRow.holds Try.pinned (OpenSpec.upto fnExactGraphPutSpec)

end Rows
end Go.Proofs.Ytecjamgajlpfdaa
