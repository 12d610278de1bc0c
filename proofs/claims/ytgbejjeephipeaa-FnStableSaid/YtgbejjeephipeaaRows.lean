/-
  No cell of these rows narrows 'for every input' (looked for: loops, veiled, ifaces, maps, wideKeys, modest, calm, conditions, laid).
  DERIVED. THE GIVEN ROWS OF THIS SEAT. 10 by the template 'for every input the law returns true; each argument reads behind the call as it read before'; 0 by the template 'total and deterministic' (their statements: YtgbejjeephipeaaTotals.lean).
  GIVEN WITH THE SEED: the statements are not yours to turn. If you find one false, say at which input.
  Laid BY PROGRAM, IN A SANDBOX (cutbox-rows.mjs): the forced cells as the released guide's own fill.sh prints them over the translation 9468ac160c7bc700… (all of the seat's roots in one cut). By AI agents, Wed Nov 11 2026. No macro, syntax, notation, axiom, sorry.
-/
import Derived.Test.YtgbejjeephipeaaChecked
import GoSem.Claim
import GoSem.ClaimJoined
import GoSem.ClaimMapViews
import Derived.JoinedTies
import Derived.KernelRfl
namespace Go.Proofs.Ytgbejjeephipeaa
/- THE CELL 'sum', in the pinned program and in every row, IS THE sha256 OF THE DUMP (.gsa) THAT YtgbejjeephipeaaProg.lean LOADS. Nothing in Lean hashes anything: it is a label: what it is worth is what the hold of that sum in a sandbox is worth. -/
noncomputable def Try.pinned : Pinned := { name := "ytgbejjeephipeaa", sum := "9468ac160c7bc70005ad0caf2e01cc89154eb15c86bccdd0bb1d8ff2e31411b5", checked := Try.checked }
namespace Rows
def none {H : Type} : Left H := { results := [], args := [] }

/-- 'laws.FnStable': WHATEVER THE INPUT: true; the input reads as it did. -/
def fnStableSpec : ChangeSpec := { name := "fnStable", fn := fun _ => fun
  | [d] => { results := [.lit (.bool true)], args := [d] }
  | _ => none }
def fnStableRow : OpenClaim := { program := "ytgbejjeephipeaa", sum := "9468ac160c7bc70005ad0caf2e01cc89154eb15c86bccdd0bb1d8ff2e31411b5", func := "loop.example/g00184/laws.FnStable", spec := "fnStable", apart := false }
def FnStableSaid : Prop := fnStableRow.holds Try.pinned (OpenSpec.ofChange fnStableSpec)

/-- ITS FALSE NEIGHBOUR: 'it returns false'. Refute it at one input. -/
def fnStableWrong : ChangeSpec := { name := "fnStable", fn := fun _ => fun
  | [d] => { results := [.lit (.bool false)], args := [d] }
  | _ => none }
def FnStableWrongFalsely : Prop := fnStableRow.holds Try.pinned (OpenSpec.ofChange fnStableWrong)

/-- 'laws.FnExactGraphPut': WHATEVER THE INPUT: true; the input reads as it did. -/
def fnExactGraphPutSpec : ChangeSpec := { name := "fnExactGraphPut", fn := fun _ => fun
  | [d1, d2] => { results := [.lit (.bool true)], args := [d1, d2] }
  | _ => none }
def fnExactGraphPutRow : OpenClaim := { program := "ytgbejjeephipeaa", sum := "9468ac160c7bc70005ad0caf2e01cc89154eb15c86bccdd0bb1d8ff2e31411b5", func := "loop.example/g00184/laws.FnExactGraphPut", spec := "fnExactGraphPut", apart := false }
def FnExactGraphPutSaid : Prop := fnExactGraphPutRow.holds Try.pinned (OpenSpec.ofChange fnExactGraphPutSpec)

/-- ITS FALSE NEIGHBOUR: 'it returns false'. Refute it at one input. -/
def fnExactGraphPutWrong : ChangeSpec := { name := "fnExactGraphPut", fn := fun _ => fun
  | [d1, d2] => { results := [.lit (.bool false)], args := [d1, d2] }
  | _ => none }
def FnExactGraphPutWrongFalsely : Prop := fnExactGraphPutRow.holds Try.pinned (OpenSpec.ofChange fnExactGraphPutWrong)

/-- 'laws.FnExactWhole': WHATEVER THE INPUT: true; the input reads as it did. -/
def fnExactWholeSpec : ChangeSpec := { name := "fnExactWhole", fn := fun _ => fun
  | [d] => { results := [.lit (.bool true)], args := [d] }
  | _ => none }
def fnExactWholeRow : OpenClaim := { program := "ytgbejjeephipeaa", sum := "9468ac160c7bc70005ad0caf2e01cc89154eb15c86bccdd0bb1d8ff2e31411b5", func := "loop.example/g00184/laws.FnExactWhole", spec := "fnExactWhole", apart := false }
def FnExactWholeSaid : Prop := fnExactWholeRow.holds Try.pinned (OpenSpec.ofChange fnExactWholeSpec)

/-- ITS FALSE NEIGHBOUR: 'it returns false'. Refute it at one input. -/
def fnExactWholeWrong : ChangeSpec := { name := "fnExactWhole", fn := fun _ => fun
  | [d] => { results := [.lit (.bool false)], args := [d] }
  | _ => none }
def FnExactWholeWrongFalsely : Prop := fnExactWholeRow.holds Try.pinned (OpenSpec.ofChange fnExactWholeWrong)

/-- 'laws.FnExactGroup': WHATEVER THE INPUT: true; the input reads as it did. -/
def fnExactGroupSpec : ChangeSpec := { name := "fnExactGroup", fn := fun _ => fun
  | [d1, d2] => { results := [.lit (.bool true)], args := [d1, d2] }
  | _ => none }
def fnExactGroupRow : OpenClaim := { program := "ytgbejjeephipeaa", sum := "9468ac160c7bc70005ad0caf2e01cc89154eb15c86bccdd0bb1d8ff2e31411b5", func := "loop.example/g00184/laws.FnExactGroup", spec := "fnExactGroup", apart := false }
def FnExactGroupSaid : Prop := fnExactGroupRow.holds Try.pinned (OpenSpec.ofChange fnExactGroupSpec)

/-- ITS FALSE NEIGHBOUR: 'it returns false'. Refute it at one input. -/
def fnExactGroupWrong : ChangeSpec := { name := "fnExactGroup", fn := fun _ => fun
  | [d1, d2] => { results := [.lit (.bool false)], args := [d1, d2] }
  | _ => none }
def FnExactGroupWrongFalsely : Prop := fnExactGroupRow.holds Try.pinned (OpenSpec.ofChange fnExactGroupWrong)

/-- 'laws.FnExactOrderOf': WHATEVER THE INPUT: true; the input reads as it did. -/
def fnExactOrderOfSpec : ChangeSpec := { name := "fnExactOrderOf", fn := fun _ => fun
  | [d] => { results := [.lit (.bool true)], args := [d] }
  | _ => none }
def fnExactOrderOfRow : OpenClaim := { program := "ytgbejjeephipeaa", sum := "9468ac160c7bc70005ad0caf2e01cc89154eb15c86bccdd0bb1d8ff2e31411b5", func := "loop.example/g00184/laws.FnExactOrderOf", spec := "fnExactOrderOf", apart := false }
def FnExactOrderOfSaid : Prop := fnExactOrderOfRow.holds Try.pinned (OpenSpec.ofChange fnExactOrderOfSpec)

/-- ITS FALSE NEIGHBOUR: 'it returns false'. Refute it at one input. -/
def fnExactOrderOfWrong : ChangeSpec := { name := "fnExactOrderOf", fn := fun _ => fun
  | [d] => { results := [.lit (.bool false)], args := [d] }
  | _ => none }
def FnExactOrderOfWrongFalsely : Prop := fnExactOrderOfRow.holds Try.pinned (OpenSpec.ofChange fnExactOrderOfWrong)

/-- 'laws.FnExactDiskNew': WHATEVER THE INPUT: true; the input reads as it did. -/
def fnExactDiskNewSpec : ChangeSpec := { name := "fnExactDiskNew", fn := fun _ => fun
  | [] => { results := [.lit (.bool true)], args := [] }
  | _ => none }
def fnExactDiskNewRow : OpenClaim := { program := "ytgbejjeephipeaa", sum := "9468ac160c7bc70005ad0caf2e01cc89154eb15c86bccdd0bb1d8ff2e31411b5", func := "loop.example/g00184/laws.FnExactDiskNew", spec := "fnExactDiskNew", apart := false }
def FnExactDiskNewSaid : Prop := fnExactDiskNewRow.holds Try.pinned (OpenSpec.ofChange fnExactDiskNewSpec)

/-- ITS FALSE NEIGHBOUR: 'it returns false'. Refute it at one input. -/
def fnExactDiskNewWrong : ChangeSpec := { name := "fnExactDiskNew", fn := fun _ => fun
  | [] => { results := [.lit (.bool false)], args := [] }
  | _ => none }
def FnExactDiskNewWrongFalsely : Prop := fnExactDiskNewRow.holds Try.pinned (OpenSpec.ofChange fnExactDiskNewWrong)

/-- 'laws.FnExactDiskOk': WHATEVER THE INPUT: true; the input reads as it did. -/
def fnExactDiskOkSpec : ChangeSpec := { name := "fnExactDiskOk", fn := fun _ => fun
  | [d] => { results := [.lit (.bool true)], args := [d] }
  | _ => none }
def fnExactDiskOkRow : OpenClaim := { program := "ytgbejjeephipeaa", sum := "9468ac160c7bc70005ad0caf2e01cc89154eb15c86bccdd0bb1d8ff2e31411b5", func := "loop.example/g00184/laws.FnExactDiskOk", spec := "fnExactDiskOk", apart := false }
def FnExactDiskOkSaid : Prop := fnExactDiskOkRow.holds Try.pinned (OpenSpec.ofChange fnExactDiskOkSpec)

/-- ITS FALSE NEIGHBOUR: 'it returns false'. Refute it at one input. -/
def fnExactDiskOkWrong : ChangeSpec := { name := "fnExactDiskOk", fn := fun _ => fun
  | [d] => { results := [.lit (.bool false)], args := [d] }
  | _ => none }
def FnExactDiskOkWrongFalsely : Prop := fnExactDiskOkRow.holds Try.pinned (OpenSpec.ofChange fnExactDiskOkWrong)

/-- 'laws.FnExactList': WHATEVER THE INPUT: true; the input reads as it did. -/
def fnExactListSpec : ChangeSpec := { name := "fnExactList", fn := fun _ => fun
  | [d] => { results := [.lit (.bool true)], args := [d] }
  | _ => none }
def fnExactListRow : OpenClaim := { program := "ytgbejjeephipeaa", sum := "9468ac160c7bc70005ad0caf2e01cc89154eb15c86bccdd0bb1d8ff2e31411b5", func := "loop.example/g00184/laws.FnExactList", spec := "fnExactList", apart := false }
def FnExactListSaid : Prop := fnExactListRow.holds Try.pinned (OpenSpec.ofChange fnExactListSpec)

/-- ITS FALSE NEIGHBOUR: 'it returns false'. Refute it at one input. -/
def fnExactListWrong : ChangeSpec := { name := "fnExactList", fn := fun _ => fun
  | [d] => { results := [.lit (.bool false)], args := [d] }
  | _ => none }
def FnExactListWrongFalsely : Prop := fnExactListRow.holds Try.pinned (OpenSpec.ofChange fnExactListWrong)

/-- 'laws.FnExactBytes': WHATEVER THE INPUT: true; the input reads as it did. -/
def fnExactBytesSpec : ChangeSpec := { name := "fnExactBytes", fn := fun _ => fun
  | [d1, d2] => { results := [.lit (.bool true)], args := [d1, d2] }
  | _ => none }
def fnExactBytesRow : OpenClaim := { program := "ytgbejjeephipeaa", sum := "9468ac160c7bc70005ad0caf2e01cc89154eb15c86bccdd0bb1d8ff2e31411b5", func := "loop.example/g00184/laws.FnExactBytes", spec := "fnExactBytes", apart := false }
def FnExactBytesSaid : Prop := fnExactBytesRow.holds Try.pinned (OpenSpec.ofChange fnExactBytesSpec)

/-- ITS FALSE NEIGHBOUR: 'it returns false'. Refute it at one input. -/
def fnExactBytesWrong : ChangeSpec := { name := "fnExactBytes", fn := fun _ => fun
  | [d1, d2] => { results := [.lit (.bool false)], args := [d1, d2] }
  | _ => none }
def FnExactBytesWrongFalsely : Prop := fnExactBytesRow.holds Try.pinned (OpenSpec.ofChange fnExactBytesWrong)

/-- 'laws.FnExactFall': WHATEVER THE INPUT: true; the input reads as it did. -/
def fnExactFallSpec : ChangeSpec := { name := "fnExactFall", fn := fun _ => fun
  | [d1, d2] => { results := [.lit (.bool true)], args := [d1, d2] }
  | _ => none }
def fnExactFallRow : OpenClaim := { program := "ytgbejjeephipeaa", sum := "9468ac160c7bc70005ad0caf2e01cc89154eb15c86bccdd0bb1d8ff2e31411b5", func := "loop.example/g00184/laws.FnExactFall", spec := "fnExactFall", apart := false }
def FnExactFallSaid : Prop := fnExactFallRow.holds Try.pinned (OpenSpec.ofChange fnExactFallSpec)

/-- ITS FALSE NEIGHBOUR: 'it returns false'. Refute it at one input. -/
def fnExactFallWrong : ChangeSpec := { name := "fnExactFall", fn := fun _ => fun
  | [d1, d2] => { results := [.lit (.bool false)], args := [d1, d2] }
  | _ => none }
def FnExactFallWrongFalsely : Prop := fnExactFallRow.holds Try.pinned (OpenSpec.ofChange fnExactFallWrong)

/- THE SECOND FORM. 'bulk': how many values and letters a reading holds, each counted each time it is reached (what is shared counts as often as it is met; a slice's spare places count too). A statement '..UptoSaid' is the law's where the arguments, and the package variables that the reading takes, are together of bulk at most 1048576: NARROWER than '..Said'. Prove '..Said' where nothing that the law and all that it calls make is longer than what came in: it says more and counts as full. Else prove '..UptoSaid'. A law counts once. -/
mutual
def uptoBulk {H : Type} : DataW H → Nat
  | .lit (.string bytes) => bytes.length + 1
  | .lit _ => 1
  | .nil => 1
  | .ptr d => uptoBulk d + 1
  | .slice elems spare => uptoBulkAll elems + uptoBulkAll spare + 1
  | .agg parts => uptoBulkAll parts + 1
  | .iface _ d => uptoBulk d + 1
  | .map entries => uptoBulkEntries entries + 1
  | .held _ => 1
def uptoBulkAll {H : Type} : List (DataW H) → Nat
  | [] => 0
  | d :: r => uptoBulk d + uptoBulkAll r
def uptoBulkEntries {H : Type} : List (Lit × DataW H) → Nat
  | [] => 0
  | x :: r => uptoBulkEntry x + uptoBulkEntries r
def uptoBulkEntry {H : Type} : Lit × DataW H → Nat
  | (.string bytes, d) => bytes.length + uptoBulk d + 1
  | (_, d) => uptoBulk d + 1
 end
def uptoSmall : (H : Type) → List (DataW H) → Bool := fun _ ds => decide (uptoBulkAll ds ≤ 1048576)
def OpenSpec.upto (s : _root_.Go.ChangeSpec) : _root_.Go.OpenSpec := { _root_.Go.OpenSpec.ofChange s with cond := some uptoSmall }

/-- 'laws.FnStable', WHERE WHAT IT READS IS OF BULK AT MOST 1048576: true; the input reads as it did. -/
def fnStableUptoRow : OpenClaim := { program := "ytgbejjeephipeaa", sum := "9468ac160c7bc70005ad0caf2e01cc89154eb15c86bccdd0bb1d8ff2e31411b5", func := "loop.example/g00184/laws.FnStable", spec := "fnStable", apart := false, narrowed := true }
def FnStableUptoSaid : Prop := fnStableUptoRow.holds Try.pinned (OpenSpec.upto fnStableSpec)

/-- 'laws.FnExactGraphPut', WHERE WHAT IT READS IS OF BULK AT MOST 1048576: true; the input reads as it did. -/
def fnExactGraphPutUptoRow : OpenClaim := { program := "ytgbejjeephipeaa", sum := "9468ac160c7bc70005ad0caf2e01cc89154eb15c86bccdd0bb1d8ff2e31411b5", func := "loop.example/g00184/laws.FnExactGraphPut", spec := "fnExactGraphPut", apart := false, narrowed := true }
def FnExactGraphPutUptoSaid : Prop := fnExactGraphPutUptoRow.holds Try.pinned (OpenSpec.upto fnExactGraphPutSpec)

/-- 'laws.FnExactWhole', WHERE WHAT IT READS IS OF BULK AT MOST 1048576: true; the input reads as it did. -/
def fnExactWholeUptoRow : OpenClaim := { program := "ytgbejjeephipeaa", sum := "9468ac160c7bc70005ad0caf2e01cc89154eb15c86bccdd0bb1d8ff2e31411b5", func := "loop.example/g00184/laws.FnExactWhole", spec := "fnExactWhole", apart := false, narrowed := true }
def FnExactWholeUptoSaid : Prop := fnExactWholeUptoRow.holds Try.pinned (OpenSpec.upto fnExactWholeSpec)

/-- 'laws.FnExactGroup', WHERE WHAT IT READS IS OF BULK AT MOST 1048576: true; the input reads as it did. -/
def fnExactGroupUptoRow : OpenClaim := { program := "ytgbejjeephipeaa", sum := "9468ac160c7bc70005ad0caf2e01cc89154eb15c86bccdd0bb1d8ff2e31411b5", func := "loop.example/g00184/laws.FnExactGroup", spec := "fnExactGroup", apart := false, narrowed := true }
def FnExactGroupUptoSaid : Prop := fnExactGroupUptoRow.holds Try.pinned (OpenSpec.upto fnExactGroupSpec)

/-- 'laws.FnExactOrderOf', WHERE WHAT IT READS IS OF BULK AT MOST 1048576: true; the input reads as it did. -/
def fnExactOrderOfUptoRow : OpenClaim := { program := "ytgbejjeephipeaa", sum := "9468ac160c7bc70005ad0caf2e01cc89154eb15c86bccdd0bb1d8ff2e31411b5", func := "loop.example/g00184/laws.FnExactOrderOf", spec := "fnExactOrderOf", apart := false, narrowed := true }
def FnExactOrderOfUptoSaid : Prop := fnExactOrderOfUptoRow.holds Try.pinned (OpenSpec.upto fnExactOrderOfSpec)

/-- 'laws.FnExactDiskNew', WHERE WHAT IT READS IS OF BULK AT MOST 1048576: true; the input reads as it did. -/
def fnExactDiskNewUptoRow : OpenClaim := { program := "ytgbejjeephipeaa", sum := "9468ac160c7bc70005ad0caf2e01cc89154eb15c86bccdd0bb1d8ff2e31411b5", func := "loop.example/g00184/laws.FnExactDiskNew", spec := "fnExactDiskNew", apart := false, narrowed := true }
def FnExactDiskNewUptoSaid : Prop := fnExactDiskNewUptoRow.holds Try.pinned (OpenSpec.upto fnExactDiskNewSpec)

/-- 'laws.FnExactDiskOk', WHERE WHAT IT READS IS OF BULK AT MOST 1048576: true; the input reads as it did. -/
def fnExactDiskOkUptoRow : OpenClaim := { program := "ytgbejjeephipeaa", sum := "9468ac160c7bc70005ad0caf2e01cc89154eb15c86bccdd0bb1d8ff2e31411b5", func := "loop.example/g00184/laws.FnExactDiskOk", spec := "fnExactDiskOk", apart := false, narrowed := true }
def FnExactDiskOkUptoSaid : Prop := fnExactDiskOkUptoRow.holds Try.pinned (OpenSpec.upto fnExactDiskOkSpec)

/-- 'laws.FnExactList', WHERE WHAT IT READS IS OF BULK AT MOST 1048576: true; the input reads as it did. -/
def fnExactListUptoRow : OpenClaim := { program := "ytgbejjeephipeaa", sum := "9468ac160c7bc70005ad0caf2e01cc89154eb15c86bccdd0bb1d8ff2e31411b5", func := "loop.example/g00184/laws.FnExactList", spec := "fnExactList", apart := false, narrowed := true }
def FnExactListUptoSaid : Prop := fnExactListUptoRow.holds Try.pinned (OpenSpec.upto fnExactListSpec)

/-- 'laws.FnExactBytes', WHERE WHAT IT READS IS OF BULK AT MOST 1048576: true; the input reads as it did. -/
def fnExactBytesUptoRow : OpenClaim := { program := "ytgbejjeephipeaa", sum := "9468ac160c7bc70005ad0caf2e01cc89154eb15c86bccdd0bb1d8ff2e31411b5", func := "loop.example/g00184/laws.FnExactBytes", spec := "fnExactBytes", apart := false, narrowed := true }
def FnExactBytesUptoSaid : Prop := fnExactBytesUptoRow.holds Try.pinned (OpenSpec.upto fnExactBytesSpec)

/-- 'laws.FnExactFall', WHERE WHAT IT READS IS OF BULK AT MOST 1048576: true; the input reads as it did. -/
def fnExactFallUptoRow : OpenClaim := { program := "ytgbejjeephipeaa", sum := "9468ac160c7bc70005ad0caf2e01cc89154eb15c86bccdd0bb1d8ff2e31411b5", func := "loop.example/g00184/laws.FnExactFall", spec := "fnExactFall", apart := false, narrowed := true }
def FnExactFallUptoSaid : Prop := fnExactFallUptoRow.holds Try.pinned (OpenSpec.upto fnExactFallSpec)

end Rows
end Go.Proofs.Ytgbejjeephipeaa
