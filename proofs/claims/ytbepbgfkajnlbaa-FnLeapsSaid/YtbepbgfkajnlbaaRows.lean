/-
  No cell of these rows narrows 'for every input' (looked for: loops, veiled, ifaces, maps, wideKeys, modest, calm, conditions, laid).
  DERIVED. THE GIVEN ROWS OF THIS SEAT. 11 by the template 'for every input the law returns true; each argument reads behind the call as it read before'; 0 by the template 'total and deterministic' (their statements: YtbepbgfkajnlbaaTotals.lean).
  GIVEN WITH THE SEED: the statements are not yours to turn. If you find one false, say at which input.
  Laid BY PROGRAM, IN A SANDBOX (cutbox-rows.mjs): the forced cells as the released guide's own fill.sh prints them over the translation 203369aa0cb3260d… (all of the seat's roots in one cut). By AI agents, Wed Nov 11 2026. No macro, syntax, notation, axiom, sorry.
-/
import Derived.Test.YtbepbgfkajnlbaaChecked
import GoSem.Claim
import GoSem.ClaimJoined
import GoSem.ClaimMapViews
import Derived.JoinedTies
import Derived.KernelRfl
namespace Go.Proofs.Ytbepbgfkajnlbaa
/- THE CELL 'sum', in the pinned program and in every row, IS THE sha256 OF THE DUMP (.gsa) THAT YtbepbgfkajnlbaaProg.lean LOADS. Nothing in Lean hashes anything: it is a label: what it is worth is what the hold of that sum in a sandbox is worth. -/
noncomputable def Try.pinned : Pinned := { name := "ytbepbgfkajnlbaa", sum := "203369aa0cb3260dbeb5ef10dd867642f9abd11083c9fe422e3ae300079cb0e5", checked := Try.checked }
namespace Rows
def none {H : Type} : Left H := { results := [], args := [] }

/-- 'laws.FnLeaps': WHATEVER THE INPUT: true; the input reads as it did. -/
def fnLeapsSpec : ChangeSpec := { name := "fnLeaps", fn := fun _ => fun
  | [d] => { results := [.lit (.bool true)], args := [d] }
  | _ => none }
def fnLeapsRow : OpenClaim := { program := "ytbepbgfkajnlbaa", sum := "203369aa0cb3260dbeb5ef10dd867642f9abd11083c9fe422e3ae300079cb0e5", func := "loop.example/g00184/laws.FnLeaps", spec := "fnLeaps", apart := false }
def FnLeapsSaid : Prop := fnLeapsRow.holds Try.pinned (OpenSpec.ofChange fnLeapsSpec)

/-- ITS FALSE NEIGHBOUR: 'it returns false'. Refute it at one input. -/
def fnLeapsWrong : ChangeSpec := { name := "fnLeaps", fn := fun _ => fun
  | [d] => { results := [.lit (.bool false)], args := [d] }
  | _ => none }
def FnLeapsWrongFalsely : Prop := fnLeapsRow.holds Try.pinned (OpenSpec.ofChange fnLeapsWrong)

/-- 'laws.FnMem': WHATEVER THE INPUT: true; the input reads as it did. -/
def fnMemSpec : ChangeSpec := { name := "fnMem", fn := fun _ => fun
  | [d] => { results := [.lit (.bool true)], args := [d] }
  | _ => none }
def fnMemRow : OpenClaim := { program := "ytbepbgfkajnlbaa", sum := "203369aa0cb3260dbeb5ef10dd867642f9abd11083c9fe422e3ae300079cb0e5", func := "loop.example/g00184/laws.FnMem", spec := "fnMem", apart := false }
def FnMemSaid : Prop := fnMemRow.holds Try.pinned (OpenSpec.ofChange fnMemSpec)

/-- ITS FALSE NEIGHBOUR: 'it returns false'. Refute it at one input. -/
def fnMemWrong : ChangeSpec := { name := "fnMem", fn := fun _ => fun
  | [d] => { results := [.lit (.bool false)], args := [d] }
  | _ => none }
def FnMemWrongFalsely : Prop := fnMemRow.holds Try.pinned (OpenSpec.ofChange fnMemWrong)

/-- 'laws.FnExactGraphOk': WHATEVER THE INPUT: true; the input reads as it did. -/
def fnExactGraphOkSpec : ChangeSpec := { name := "fnExactGraphOk", fn := fun _ => fun
  | [d] => { results := [.lit (.bool true)], args := [d] }
  | _ => none }
def fnExactGraphOkRow : OpenClaim := { program := "ytbepbgfkajnlbaa", sum := "203369aa0cb3260dbeb5ef10dd867642f9abd11083c9fe422e3ae300079cb0e5", func := "loop.example/g00184/laws.FnExactGraphOk", spec := "fnExactGraphOk", apart := false }
def FnExactGraphOkSaid : Prop := fnExactGraphOkRow.holds Try.pinned (OpenSpec.ofChange fnExactGraphOkSpec)

/-- ITS FALSE NEIGHBOUR: 'it returns false'. Refute it at one input. -/
def fnExactGraphOkWrong : ChangeSpec := { name := "fnExactGraphOk", fn := fun _ => fun
  | [d] => { results := [.lit (.bool false)], args := [d] }
  | _ => none }
def FnExactGraphOkWrongFalsely : Prop := fnExactGraphOkRow.holds Try.pinned (OpenSpec.ofChange fnExactGraphOkWrong)

/-- 'laws.FnExactOverlap': WHATEVER THE INPUT: true; the input reads as it did. -/
def fnExactOverlapSpec : ChangeSpec := { name := "fnExactOverlap", fn := fun _ => fun
  | [d1, d2, d3, d4] => { results := [.lit (.bool true)], args := [d1, d2, d3, d4] }
  | _ => none }
def fnExactOverlapRow : OpenClaim := { program := "ytbepbgfkajnlbaa", sum := "203369aa0cb3260dbeb5ef10dd867642f9abd11083c9fe422e3ae300079cb0e5", func := "loop.example/g00184/laws.FnExactOverlap", spec := "fnExactOverlap", apart := false }
def FnExactOverlapSaid : Prop := fnExactOverlapRow.holds Try.pinned (OpenSpec.ofChange fnExactOverlapSpec)

/-- ITS FALSE NEIGHBOUR: 'it returns false'. Refute it at one input. -/
def fnExactOverlapWrong : ChangeSpec := { name := "fnExactOverlap", fn := fun _ => fun
  | [d1, d2, d3, d4] => { results := [.lit (.bool false)], args := [d1, d2, d3, d4] }
  | _ => none }
def FnExactOverlapWrongFalsely : Prop := fnExactOverlapRow.holds Try.pinned (OpenSpec.ofChange fnExactOverlapWrong)

/-- 'laws.FnExactRecords': WHATEVER THE INPUT: true; the input reads as it did. -/
def fnExactRecordsSpec : ChangeSpec := { name := "fnExactRecords", fn := fun _ => fun
  | [d] => { results := [.lit (.bool true)], args := [d] }
  | _ => none }
def fnExactRecordsRow : OpenClaim := { program := "ytbepbgfkajnlbaa", sum := "203369aa0cb3260dbeb5ef10dd867642f9abd11083c9fe422e3ae300079cb0e5", func := "loop.example/g00184/laws.FnExactRecords", spec := "fnExactRecords", apart := false }
def FnExactRecordsSaid : Prop := fnExactRecordsRow.holds Try.pinned (OpenSpec.ofChange fnExactRecordsSpec)

/-- ITS FALSE NEIGHBOUR: 'it returns false'. Refute it at one input. -/
def fnExactRecordsWrong : ChangeSpec := { name := "fnExactRecords", fn := fun _ => fun
  | [d] => { results := [.lit (.bool false)], args := [d] }
  | _ => none }
def FnExactRecordsWrongFalsely : Prop := fnExactRecordsRow.holds Try.pinned (OpenSpec.ofChange fnExactRecordsWrong)

/-- 'laws.FnExactLeaps': WHATEVER THE INPUT: true; the input reads as it did. -/
def fnExactLeapsSpec : ChangeSpec := { name := "fnExactLeaps", fn := fun _ => fun
  | [d1, d2] => { results := [.lit (.bool true)], args := [d1, d2] }
  | _ => none }
def fnExactLeapsRow : OpenClaim := { program := "ytbepbgfkajnlbaa", sum := "203369aa0cb3260dbeb5ef10dd867642f9abd11083c9fe422e3ae300079cb0e5", func := "loop.example/g00184/laws.FnExactLeaps", spec := "fnExactLeaps", apart := false }
def FnExactLeapsSaid : Prop := fnExactLeapsRow.holds Try.pinned (OpenSpec.ofChange fnExactLeapsSpec)

/-- ITS FALSE NEIGHBOUR: 'it returns false'. Refute it at one input. -/
def fnExactLeapsWrong : ChangeSpec := { name := "fnExactLeaps", fn := fun _ => fun
  | [d1, d2] => { results := [.lit (.bool false)], args := [d1, d2] }
  | _ => none }
def FnExactLeapsWrongFalsely : Prop := fnExactLeapsRow.holds Try.pinned (OpenSpec.ofChange fnExactLeapsWrong)

/-- 'laws.FnExactMemPut': WHATEVER THE INPUT: true; the input reads as it did. -/
def fnExactMemPutSpec : ChangeSpec := { name := "fnExactMemPut", fn := fun _ => fun
  | [d1, d2, d3] => { results := [.lit (.bool true)], args := [d1, d2, d3] }
  | _ => none }
def fnExactMemPutRow : OpenClaim := { program := "ytbepbgfkajnlbaa", sum := "203369aa0cb3260dbeb5ef10dd867642f9abd11083c9fe422e3ae300079cb0e5", func := "loop.example/g00184/laws.FnExactMemPut", spec := "fnExactMemPut", apart := false }
def FnExactMemPutSaid : Prop := fnExactMemPutRow.holds Try.pinned (OpenSpec.ofChange fnExactMemPutSpec)

/-- ITS FALSE NEIGHBOUR: 'it returns false'. Refute it at one input. -/
def fnExactMemPutWrong : ChangeSpec := { name := "fnExactMemPut", fn := fun _ => fun
  | [d1, d2, d3] => { results := [.lit (.bool false)], args := [d1, d2, d3] }
  | _ => none }
def FnExactMemPutWrongFalsely : Prop := fnExactMemPutRow.holds Try.pinned (OpenSpec.ofChange fnExactMemPutWrong)

/-- 'laws.FnExactMerge': WHATEVER THE INPUT: true; the input reads as it did. -/
def fnExactMergeSpec : ChangeSpec := { name := "fnExactMerge", fn := fun _ => fun
  | [d1, d2] => { results := [.lit (.bool true)], args := [d1, d2] }
  | _ => none }
def fnExactMergeRow : OpenClaim := { program := "ytbepbgfkajnlbaa", sum := "203369aa0cb3260dbeb5ef10dd867642f9abd11083c9fe422e3ae300079cb0e5", func := "loop.example/g00184/laws.FnExactMerge", spec := "fnExactMerge", apart := false }
def FnExactMergeSaid : Prop := fnExactMergeRow.holds Try.pinned (OpenSpec.ofChange fnExactMergeSpec)

/-- ITS FALSE NEIGHBOUR: 'it returns false'. Refute it at one input. -/
def fnExactMergeWrong : ChangeSpec := { name := "fnExactMerge", fn := fun _ => fun
  | [d1, d2] => { results := [.lit (.bool false)], args := [d1, d2] }
  | _ => none }
def FnExactMergeWrongFalsely : Prop := fnExactMergeRow.holds Try.pinned (OpenSpec.ofChange fnExactMergeWrong)

/-- 'laws.FnMerged': WHATEVER THE INPUT: true; the input reads as it did. -/
def fnMergedSpec : ChangeSpec := { name := "fnMerged", fn := fun _ => fun
  | [d] => { results := [.lit (.bool true)], args := [d] }
  | _ => none }
def fnMergedRow : OpenClaim := { program := "ytbepbgfkajnlbaa", sum := "203369aa0cb3260dbeb5ef10dd867642f9abd11083c9fe422e3ae300079cb0e5", func := "loop.example/g00184/laws.FnMerged", spec := "fnMerged", apart := false }
def FnMergedSaid : Prop := fnMergedRow.holds Try.pinned (OpenSpec.ofChange fnMergedSpec)

/-- ITS FALSE NEIGHBOUR: 'it returns false'. Refute it at one input. -/
def fnMergedWrong : ChangeSpec := { name := "fnMerged", fn := fun _ => fun
  | [d] => { results := [.lit (.bool false)], args := [d] }
  | _ => none }
def FnMergedWrongFalsely : Prop := fnMergedRow.holds Try.pinned (OpenSpec.ofChange fnMergedWrong)

/-- 'laws.FnExactPutTable': WHATEVER THE INPUT: true; the input reads as it did. -/
def fnExactPutTableSpec : ChangeSpec := { name := "fnExactPutTable", fn := fun _ => fun
  | [d] => { results := [.lit (.bool true)], args := [d] }
  | _ => none }
def fnExactPutTableRow : OpenClaim := { program := "ytbepbgfkajnlbaa", sum := "203369aa0cb3260dbeb5ef10dd867642f9abd11083c9fe422e3ae300079cb0e5", func := "loop.example/g00184/laws.FnExactPutTable", spec := "fnExactPutTable", apart := false }
def FnExactPutTableSaid : Prop := fnExactPutTableRow.holds Try.pinned (OpenSpec.ofChange fnExactPutTableSpec)

/-- ITS FALSE NEIGHBOUR: 'it returns false'. Refute it at one input. -/
def fnExactPutTableWrong : ChangeSpec := { name := "fnExactPutTable", fn := fun _ => fun
  | [d] => { results := [.lit (.bool false)], args := [d] }
  | _ => none }
def FnExactPutTableWrongFalsely : Prop := fnExactPutTableRow.holds Try.pinned (OpenSpec.ofChange fnExactPutTableWrong)

/-- 'laws.FnExactTablePairs': WHATEVER THE INPUT: true; the input reads as it did. -/
def fnExactTablePairsSpec : ChangeSpec := { name := "fnExactTablePairs", fn := fun _ => fun
  | [d] => { results := [.lit (.bool true)], args := [d] }
  | _ => none }
def fnExactTablePairsRow : OpenClaim := { program := "ytbepbgfkajnlbaa", sum := "203369aa0cb3260dbeb5ef10dd867642f9abd11083c9fe422e3ae300079cb0e5", func := "loop.example/g00184/laws.FnExactTablePairs", spec := "fnExactTablePairs", apart := false }
def FnExactTablePairsSaid : Prop := fnExactTablePairsRow.holds Try.pinned (OpenSpec.ofChange fnExactTablePairsSpec)

/-- ITS FALSE NEIGHBOUR: 'it returns false'. Refute it at one input. -/
def fnExactTablePairsWrong : ChangeSpec := { name := "fnExactTablePairs", fn := fun _ => fun
  | [d] => { results := [.lit (.bool false)], args := [d] }
  | _ => none }
def FnExactTablePairsWrongFalsely : Prop := fnExactTablePairsRow.holds Try.pinned (OpenSpec.ofChange fnExactTablePairsWrong)

/- THE SECOND FORM. 'bulk': how many values and letters a reading holds, each counted each time it is reached (what is shared counts as often as it is met; a slice's spare places count too). A statement '..UptoSaid' is the law's where the arguments, and the package variables that the reading takes, are together of bulk at most 1048576: NARROWER than '..Said'. Prove '..Said' where nothing that the law and all that it calls make is longer than what came in: it says more and counts as full. Else prove '..UptoSaid'. A law counts once. -/
mutual
def uptoBulk {H : Type} : DataW H → Nat
  | .lit (.string bytes) => bytes.length + 1
  | .lit _ => 1
  | .nil => 1
  | .ptr d => uptoBulk d + 1
  | .slice elems spare => uptoBulkAll elems + uptoBulkAll spare + 1
  | .agg parts => uptoBulkAll parts + 1
  | .iface _ d => uptoBulk d + 1
  | .map entries => uptoBulkEntries entries + 1
  | .held _ => 1
def uptoBulkAll {H : Type} : List (DataW H) → Nat
  | [] => 0
  | d :: r => uptoBulk d + uptoBulkAll r
def uptoBulkEntries {H : Type} : List (Lit × DataW H) → Nat
  | [] => 0
  | x :: r => uptoBulkEntry x + uptoBulkEntries r
def uptoBulkEntry {H : Type} : Lit × DataW H → Nat
  | (.string bytes, d) => bytes.length + uptoBulk d + 1
  | (_, d) => uptoBulk d + 1
 end
def uptoSmall : (H : Type) → List (DataW H) → Bool := fun _ ds => decide (uptoBulkAll ds ≤ 1048576)
def OpenSpec.upto (s : _root_.Go.ChangeSpec) : _root_.Go.OpenSpec := { _root_.Go.OpenSpec.ofChange s with cond := some uptoSmall }

/-- 'laws.FnLeaps', WHERE WHAT IT READS IS OF BULK AT MOST 1048576: true; the input reads as it did. -/
def fnLeapsUptoRow : OpenClaim := { program := "ytbepbgfkajnlbaa", sum := "203369aa0cb3260dbeb5ef10dd867642f9abd11083c9fe422e3ae300079cb0e5", func := "loop.example/g00184/laws.FnLeaps", spec := "fnLeaps", apart := false, narrowed := true }
def FnLeapsUptoSaid : Prop := fnLeapsUptoRow.holds Try.pinned (OpenSpec.upto fnLeapsSpec)

/-- 'laws.FnMem', WHERE WHAT IT READS IS OF BULK AT MOST 1048576: true; the input reads as it did. -/
def fnMemUptoRow : OpenClaim := { program := "ytbepbgfkajnlbaa", sum := "203369aa0cb3260dbeb5ef10dd867642f9abd11083c9fe422e3ae300079cb0e5", func := "loop.example/g00184/laws.FnMem", spec := "fnMem", apart := false, narrowed := true }
def FnMemUptoSaid : Prop := fnMemUptoRow.holds Try.pinned (OpenSpec.upto fnMemSpec)

/-- 'laws.FnExactGraphOk', WHERE WHAT IT READS IS OF BULK AT MOST 1048576: true; the input reads as it did. -/
def fnExactGraphOkUptoRow : OpenClaim := { program := "ytbepbgfkajnlbaa", sum := "203369aa0cb3260dbeb5ef10dd867642f9abd11083c9fe422e3ae300079cb0e5", func := "loop.example/g00184/laws.FnExactGraphOk", spec := "fnExactGraphOk", apart := false, narrowed := true }
def FnExactGraphOkUptoSaid : Prop := fnExactGraphOkUptoRow.holds Try.pinned (OpenSpec.upto fnExactGraphOkSpec)

/-- 'laws.FnExactOverlap', WHERE WHAT IT READS IS OF BULK AT MOST 1048576: true; the input reads as it did. -/
def fnExactOverlapUptoRow : OpenClaim := { program := "ytbepbgfkajnlbaa", sum := "203369aa0cb3260dbeb5ef10dd867642f9abd11083c9fe422e3ae300079cb0e5", func := "loop.example/g00184/laws.FnExactOverlap", spec := "fnExactOverlap", apart := false, narrowed := true }
def FnExactOverlapUptoSaid : Prop := fnExactOverlapUptoRow.holds Try.pinned (OpenSpec.upto fnExactOverlapSpec)

/-- 'laws.FnExactRecords', WHERE WHAT IT READS IS OF BULK AT MOST 1048576: true; the input reads as it did. -/
def fnExactRecordsUptoRow : OpenClaim := { program := "ytbepbgfkajnlbaa", sum := "203369aa0cb3260dbeb5ef10dd867642f9abd11083c9fe422e3ae300079cb0e5", func := "loop.example/g00184/laws.FnExactRecords", spec := "fnExactRecords", apart := false, narrowed := true }
def FnExactRecordsUptoSaid : Prop := fnExactRecordsUptoRow.holds Try.pinned (OpenSpec.upto fnExactRecordsSpec)

/-- 'laws.FnExactLeaps', WHERE WHAT IT READS IS OF BULK AT MOST 1048576: true; the input reads as it did. -/
def fnExactLeapsUptoRow : OpenClaim := { program := "ytbepbgfkajnlbaa", sum := "203369aa0cb3260dbeb5ef10dd867642f9abd11083c9fe422e3ae300079cb0e5", func := "loop.example/g00184/laws.FnExactLeaps", spec := "fnExactLeaps", apart := false, narrowed := true }
def FnExactLeapsUptoSaid : Prop := fnExactLeapsUptoRow.holds Try.pinned (OpenSpec.upto fnExactLeapsSpec)

/-- 'laws.FnExactMemPut', WHERE WHAT IT READS IS OF BULK AT MOST 1048576: true; the input reads as it did. -/
def fnExactMemPutUptoRow : OpenClaim := { program := "ytbepbgfkajnlbaa", sum := "203369aa0cb3260dbeb5ef10dd867642f9abd11083c9fe422e3ae300079cb0e5", func := "loop.example/g00184/laws.FnExactMemPut", spec := "fnExactMemPut", apart := false, narrowed := true }
def FnExactMemPutUptoSaid : Prop := fnExactMemPutUptoRow.holds Try.pinned (OpenSpec.upto fnExactMemPutSpec)

/-- 'laws.FnExactMerge', WHERE WHAT IT READS IS OF BULK AT MOST 1048576: true; the input reads as it did. -/
def fnExactMergeUptoRow : OpenClaim := { program := "ytbepbgfkajnlbaa", sum := "203369aa0cb3260dbeb5ef10dd867642f9abd11083c9fe422e3ae300079cb0e5", func := "loop.example/g00184/laws.FnExactMerge", spec := "fnExactMerge", apart := false, narrowed := true }
def FnExactMergeUptoSaid : Prop := fnExactMergeUptoRow.holds Try.pinned (OpenSpec.upto fnExactMergeSpec)

/-- 'laws.FnMerged', WHERE WHAT IT READS IS OF BULK AT MOST 1048576: true; the input reads as it did. -/
def fnMergedUptoRow : OpenClaim := { program := "ytbepbgfkajnlbaa", sum := "203369aa0cb3260dbeb5ef10dd867642f9abd11083c9fe422e3ae300079cb0e5", func := "loop.example/g00184/laws.FnMerged", spec := "fnMerged", apart := false, narrowed := true }
def FnMergedUptoSaid : Prop := fnMergedUptoRow.holds Try.pinned (OpenSpec.upto fnMergedSpec)

/-- 'laws.FnExactPutTable', WHERE WHAT IT READS IS OF BULK AT MOST 1048576: true; the input reads as it did. -/
def fnExactPutTableUptoRow : OpenClaim := { program := "ytbepbgfkajnlbaa", sum := "203369aa0cb3260dbeb5ef10dd867642f9abd11083c9fe422e3ae300079cb0e5", func := "loop.example/g00184/laws.FnExactPutTable", spec := "fnExactPutTable", apart := false, narrowed := true }
def FnExactPutTableUptoSaid : Prop := fnExactPutTableUptoRow.holds Try.pinned (OpenSpec.upto fnExactPutTableSpec)

/-- 'laws.FnExactTablePairs', WHERE WHAT IT READS IS OF BULK AT MOST 1048576: true; the input reads as it did. -/
def fnExactTablePairsUptoRow : OpenClaim := { program := "ytbepbgfkajnlbaa", sum := "203369aa0cb3260dbeb5ef10dd867642f9abd11083c9fe422e3ae300079cb0e5", func := "loop.example/g00184/laws.FnExactTablePairs", spec := "fnExactTablePairs", apart := false, narrowed := true }
def FnExactTablePairsUptoSaid : Prop := fnExactTablePairsUptoRow.holds Try.pinned (OpenSpec.upto fnExactTablePairsSpec)

end Rows
end Go.Proofs.Ytbepbgfkajnlbaa
