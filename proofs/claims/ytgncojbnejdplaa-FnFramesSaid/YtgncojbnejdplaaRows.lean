/-
  No cell of these rows narrows 'for every input' (looked for: loops, veiled, ifaces, maps, wideKeys, modest, calm, conditions, laid).
  DERIVED. THE GIVEN ROWS OF THIS SEAT. 12 by the template 'for every input the law returns true; each argument reads behind the call as it read before'; 0 by the template 'total and deterministic' (their statements: YtgncojbnejdplaaTotals.lean).
  GIVEN WITH THE SEED: the statements are not yours to turn. If you find one false, say at which input.
  Laid BY PROGRAM, IN A SANDBOX (cutbox-rows.mjs): the forced cells as the released guide's own fill.sh prints them over the translation 5b43b624483f5059… (all of the seat's roots in one cut). By AI agents, Wed Nov 11 2026. No macro, syntax, notation, axiom, sorry.
-/
import Derived.Test.YtgncojbnejdplaaChecked
import GoSem.Claim
import GoSem.ClaimJoined
import GoSem.ClaimMapViews
import Derived.JoinedTies
import Derived.KernelRfl
namespace Go.Proofs.Ytgncojbnejdplaa
/- THE CELL 'sum', in the pinned program and in every row, IS THE sha256 OF THE DUMP (.gsa) THAT YtgncojbnejdplaaProg.lean LOADS. Nothing in Lean hashes anything: it is a label: what it is worth is what the hold of that sum in a sandbox is worth. -/
noncomputable def Try.pinned : Pinned := { name := "ytgncojbnejdplaa", sum := "5b43b624483f5059a3ff038f088270f595ada19efb5de22499f9864874dc648b", checked := Try.checked }
namespace Rows
def none {H : Type} : Left H := { results := [], args := [] }

/-- 'laws.FnExactPutText': WHATEVER THE INPUT: true; the input reads as it did. -/
def fnExactPutTextSpec : ChangeSpec := { name := "fnExactPutText", fn := fun _ => fun
  | [d1, d2] => { results := [.lit (.bool true)], args := [d1, d2] }
  | _ => none }
def fnExactPutTextRow : OpenClaim := { program := "ytgncojbnejdplaa", sum := "5b43b624483f5059a3ff038f088270f595ada19efb5de22499f9864874dc648b", func := "loop.example/g00184/laws.FnExactPutText", spec := "fnExactPutText", apart := false }
def FnExactPutTextSaid : Prop := fnExactPutTextRow.holds Try.pinned (OpenSpec.ofChange fnExactPutTextSpec)

/-- ITS FALSE NEIGHBOUR: 'it returns false'. Refute it at one input. -/
def fnExactPutTextWrong : ChangeSpec := { name := "fnExactPutText", fn := fun _ => fun
  | [d1, d2] => { results := [.lit (.bool false)], args := [d1, d2] }
  | _ => none }
def FnExactPutTextWrongFalsely : Prop := fnExactPutTextRow.holds Try.pinned (OpenSpec.ofChange fnExactPutTextWrong)

/-- 'laws.FnExactMayHave': WHATEVER THE INPUT: true; the input reads as it did. -/
def fnExactMayHaveSpec : ChangeSpec := { name := "fnExactMayHave", fn := fun _ => fun
  | [d1, d2] => { results := [.lit (.bool true)], args := [d1, d2] }
  | _ => none }
def fnExactMayHaveRow : OpenClaim := { program := "ytgncojbnejdplaa", sum := "5b43b624483f5059a3ff038f088270f595ada19efb5de22499f9864874dc648b", func := "loop.example/g00184/laws.FnExactMayHave", spec := "fnExactMayHave", apart := false }
def FnExactMayHaveSaid : Prop := fnExactMayHaveRow.holds Try.pinned (OpenSpec.ofChange fnExactMayHaveSpec)

/-- ITS FALSE NEIGHBOUR: 'it returns false'. Refute it at one input. -/
def fnExactMayHaveWrong : ChangeSpec := { name := "fnExactMayHave", fn := fun _ => fun
  | [d1, d2] => { results := [.lit (.bool false)], args := [d1, d2] }
  | _ => none }
def FnExactMayHaveWrongFalsely : Prop := fnExactMayHaveRow.holds Try.pinned (OpenSpec.ofChange fnExactMayHaveWrong)

/-- 'laws.FnNums': WHATEVER THE INPUT: true; the input reads as it did. -/
def fnNumsSpec : ChangeSpec := { name := "fnNums", fn := fun _ => fun
  | [d] => { results := [.lit (.bool true)], args := [d] }
  | _ => none }
def fnNumsRow : OpenClaim := { program := "ytgncojbnejdplaa", sum := "5b43b624483f5059a3ff038f088270f595ada19efb5de22499f9864874dc648b", func := "loop.example/g00184/laws.FnNums", spec := "fnNums", apart := false }
def FnNumsSaid : Prop := fnNumsRow.holds Try.pinned (OpenSpec.ofChange fnNumsSpec)

/-- ITS FALSE NEIGHBOUR: 'it returns false'. Refute it at one input. -/
def fnNumsWrong : ChangeSpec := { name := "fnNums", fn := fun _ => fun
  | [d] => { results := [.lit (.bool false)], args := [d] }
  | _ => none }
def FnNumsWrongFalsely : Prop := fnNumsRow.holds Try.pinned (OpenSpec.ofChange fnNumsWrong)

/-- 'laws.FnOverlaps': WHATEVER THE INPUT: true; the input reads as it did. -/
def fnOverlapsSpec : ChangeSpec := { name := "fnOverlaps", fn := fun _ => fun
  | [d] => { results := [.lit (.bool true)], args := [d] }
  | _ => none }
def fnOverlapsRow : OpenClaim := { program := "ytgncojbnejdplaa", sum := "5b43b624483f5059a3ff038f088270f595ada19efb5de22499f9864874dc648b", func := "loop.example/g00184/laws.FnOverlaps", spec := "fnOverlaps", apart := false }
def FnOverlapsSaid : Prop := fnOverlapsRow.holds Try.pinned (OpenSpec.ofChange fnOverlapsSpec)

/-- ITS FALSE NEIGHBOUR: 'it returns false'. Refute it at one input. -/
def fnOverlapsWrong : ChangeSpec := { name := "fnOverlaps", fn := fun _ => fun
  | [d] => { results := [.lit (.bool false)], args := [d] }
  | _ => none }
def FnOverlapsWrongFalsely : Prop := fnOverlapsRow.holds Try.pinned (OpenSpec.ofChange fnOverlapsWrong)

/-- 'laws.FnExactFrame': WHATEVER THE INPUT: true; the input reads as it did. -/
def fnExactFrameSpec : ChangeSpec := { name := "fnExactFrame", fn := fun _ => fun
  | [d] => { results := [.lit (.bool true)], args := [d] }
  | _ => none }
def fnExactFrameRow : OpenClaim := { program := "ytgncojbnejdplaa", sum := "5b43b624483f5059a3ff038f088270f595ada19efb5de22499f9864874dc648b", func := "loop.example/g00184/laws.FnExactFrame", spec := "fnExactFrame", apart := false }
def FnExactFrameSaid : Prop := fnExactFrameRow.holds Try.pinned (OpenSpec.ofChange fnExactFrameSpec)

/-- ITS FALSE NEIGHBOUR: 'it returns false'. Refute it at one input. -/
def fnExactFrameWrong : ChangeSpec := { name := "fnExactFrame", fn := fun _ => fun
  | [d] => { results := [.lit (.bool false)], args := [d] }
  | _ => none }
def FnExactFrameWrongFalsely : Prop := fnExactFrameRow.holds Try.pinned (OpenSpec.ofChange fnExactFrameWrong)

/-- 'laws.FnExactMemGet': WHATEVER THE INPUT: true; the input reads as it did. -/
def fnExactMemGetSpec : ChangeSpec := { name := "fnExactMemGet", fn := fun _ => fun
  | [d1, d2] => { results := [.lit (.bool true)], args := [d1, d2] }
  | _ => none }
def fnExactMemGetRow : OpenClaim := { program := "ytgncojbnejdplaa", sum := "5b43b624483f5059a3ff038f088270f595ada19efb5de22499f9864874dc648b", func := "loop.example/g00184/laws.FnExactMemGet", spec := "fnExactMemGet", apart := false }
def FnExactMemGetSaid : Prop := fnExactMemGetRow.holds Try.pinned (OpenSpec.ofChange fnExactMemGetSpec)

/-- ITS FALSE NEIGHBOUR: 'it returns false'. Refute it at one input. -/
def fnExactMemGetWrong : ChangeSpec := { name := "fnExactMemGet", fn := fun _ => fun
  | [d1, d2] => { results := [.lit (.bool false)], args := [d1, d2] }
  | _ => none }
def FnExactMemGetWrongFalsely : Prop := fnExactMemGetRow.holds Try.pinned (OpenSpec.ofChange fnExactMemGetWrong)

/-- 'laws.FnExactRange': WHATEVER THE INPUT: true; the input reads as it did. -/
def fnExactRangeSpec : ChangeSpec := { name := "fnExactRange", fn := fun _ => fun
  | [d1, d2, d3] => { results := [.lit (.bool true)], args := [d1, d2, d3] }
  | _ => none }
def fnExactRangeRow : OpenClaim := { program := "ytgncojbnejdplaa", sum := "5b43b624483f5059a3ff038f088270f595ada19efb5de22499f9864874dc648b", func := "loop.example/g00184/laws.FnExactRange", spec := "fnExactRange", apart := false }
def FnExactRangeSaid : Prop := fnExactRangeRow.holds Try.pinned (OpenSpec.ofChange fnExactRangeSpec)

/-- ITS FALSE NEIGHBOUR: 'it returns false'. Refute it at one input. -/
def fnExactRangeWrong : ChangeSpec := { name := "fnExactRange", fn := fun _ => fun
  | [d1, d2, d3] => { results := [.lit (.bool false)], args := [d1, d2, d3] }
  | _ => none }
def FnExactRangeWrongFalsely : Prop := fnExactRangeRow.holds Try.pinned (OpenSpec.ofChange fnExactRangeWrong)

/-- 'laws.FnExactMemOk': WHATEVER THE INPUT: true; the input reads as it did. -/
def fnExactMemOkSpec : ChangeSpec := { name := "fnExactMemOk", fn := fun _ => fun
  | [d] => { results := [.lit (.bool true)], args := [d] }
  | _ => none }
def fnExactMemOkRow : OpenClaim := { program := "ytgncojbnejdplaa", sum := "5b43b624483f5059a3ff038f088270f595ada19efb5de22499f9864874dc648b", func := "loop.example/g00184/laws.FnExactMemOk", spec := "fnExactMemOk", apart := false }
def FnExactMemOkSaid : Prop := fnExactMemOkRow.holds Try.pinned (OpenSpec.ofChange fnExactMemOkSpec)

/-- ITS FALSE NEIGHBOUR: 'it returns false'. Refute it at one input. -/
def fnExactMemOkWrong : ChangeSpec := { name := "fnExactMemOk", fn := fun _ => fun
  | [d] => { results := [.lit (.bool false)], args := [d] }
  | _ => none }
def FnExactMemOkWrongFalsely : Prop := fnExactMemOkRow.holds Try.pinned (OpenSpec.ofChange fnExactMemOkWrong)

/-- 'laws.FnExactFilter': WHATEVER THE INPUT: true; the input reads as it did. -/
def fnExactFilterSpec : ChangeSpec := { name := "fnExactFilter", fn := fun _ => fun
  | [d] => { results := [.lit (.bool true)], args := [d] }
  | _ => none }
def fnExactFilterRow : OpenClaim := { program := "ytgncojbnejdplaa", sum := "5b43b624483f5059a3ff038f088270f595ada19efb5de22499f9864874dc648b", func := "loop.example/g00184/laws.FnExactFilter", spec := "fnExactFilter", apart := false }
def FnExactFilterSaid : Prop := fnExactFilterRow.holds Try.pinned (OpenSpec.ofChange fnExactFilterSpec)

/-- ITS FALSE NEIGHBOUR: 'it returns false'. Refute it at one input. -/
def fnExactFilterWrong : ChangeSpec := { name := "fnExactFilter", fn := fun _ => fun
  | [d] => { results := [.lit (.bool false)], args := [d] }
  | _ => none }
def FnExactFilterWrongFalsely : Prop := fnExactFilterRow.holds Try.pinned (OpenSpec.ofChange fnExactFilterWrong)

/-- 'laws.FnExactManOk': WHATEVER THE INPUT: true; the input reads as it did. -/
def fnExactManOkSpec : ChangeSpec := { name := "fnExactManOk", fn := fun _ => fun
  | [d] => { results := [.lit (.bool true)], args := [d] }
  | _ => none }
def fnExactManOkRow : OpenClaim := { program := "ytgncojbnejdplaa", sum := "5b43b624483f5059a3ff038f088270f595ada19efb5de22499f9864874dc648b", func := "loop.example/g00184/laws.FnExactManOk", spec := "fnExactManOk", apart := false }
def FnExactManOkSaid : Prop := fnExactManOkRow.holds Try.pinned (OpenSpec.ofChange fnExactManOkSpec)

/-- ITS FALSE NEIGHBOUR: 'it returns false'. Refute it at one input. -/
def fnExactManOkWrong : ChangeSpec := { name := "fnExactManOk", fn := fun _ => fun
  | [d] => { results := [.lit (.bool false)], args := [d] }
  | _ => none }
def FnExactManOkWrongFalsely : Prop := fnExactManOkRow.holds Try.pinned (OpenSpec.ofChange fnExactManOkWrong)

/-- 'laws.FnExactUnframe': WHATEVER THE INPUT: true; the input reads as it did. -/
def fnExactUnframeSpec : ChangeSpec := { name := "fnExactUnframe", fn := fun _ => fun
  | [d1, d2] => { results := [.lit (.bool true)], args := [d1, d2] }
  | _ => none }
def fnExactUnframeRow : OpenClaim := { program := "ytgncojbnejdplaa", sum := "5b43b624483f5059a3ff038f088270f595ada19efb5de22499f9864874dc648b", func := "loop.example/g00184/laws.FnExactUnframe", spec := "fnExactUnframe", apart := false }
def FnExactUnframeSaid : Prop := fnExactUnframeRow.holds Try.pinned (OpenSpec.ofChange fnExactUnframeSpec)

/-- ITS FALSE NEIGHBOUR: 'it returns false'. Refute it at one input. -/
def fnExactUnframeWrong : ChangeSpec := { name := "fnExactUnframe", fn := fun _ => fun
  | [d1, d2] => { results := [.lit (.bool false)], args := [d1, d2] }
  | _ => none }
def FnExactUnframeWrongFalsely : Prop := fnExactUnframeRow.holds Try.pinned (OpenSpec.ofChange fnExactUnframeWrong)

/-- 'laws.FnFrames': WHATEVER THE INPUT: true; the input reads as it did. -/
def fnFramesSpec : ChangeSpec := { name := "fnFrames", fn := fun _ => fun
  | [d] => { results := [.lit (.bool true)], args := [d] }
  | _ => none }
def fnFramesRow : OpenClaim := { program := "ytgncojbnejdplaa", sum := "5b43b624483f5059a3ff038f088270f595ada19efb5de22499f9864874dc648b", func := "loop.example/g00184/laws.FnFrames", spec := "fnFrames", apart := false }
def FnFramesSaid : Prop := fnFramesRow.holds Try.pinned (OpenSpec.ofChange fnFramesSpec)

/-- ITS FALSE NEIGHBOUR: 'it returns false'. Refute it at one input. -/
def fnFramesWrong : ChangeSpec := { name := "fnFrames", fn := fun _ => fun
  | [d] => { results := [.lit (.bool false)], args := [d] }
  | _ => none }
def FnFramesWrongFalsely : Prop := fnFramesRow.holds Try.pinned (OpenSpec.ofChange fnFramesWrong)

/- THE SECOND FORM. 'bulk': how many values and letters a reading holds, each counted each time it is reached (what is shared counts as often as it is met; a slice's spare places count too). A statement '..UptoSaid' is the law's where the arguments, and the package variables that the reading takes, are together of bulk at most 1048576: NARROWER than '..Said'. Prove '..Said' where nothing that the law and all that it calls make is longer than what came in: it says more and counts as full. Else prove '..UptoSaid'. A law counts once. -/
mutual
def uptoBulk {H : Type} : DataW H → Nat
  | .lit (.string bytes) => bytes.length + 1
  | .lit _ => 1
  | .nil => 1
  | .ptr d => uptoBulk d + 1
  | .slice elems spare => uptoBulkAll elems + uptoBulkAll spare + 1
  | .agg parts => uptoBulkAll parts + 1
  | .iface _ d => uptoBulk d + 1
  | .map entries => uptoBulkEntries entries + 1
  | .held _ => 1
def uptoBulkAll {H : Type} : List (DataW H) → Nat
  | [] => 0
  | d :: r => uptoBulk d + uptoBulkAll r
def uptoBulkEntries {H : Type} : List (Lit × DataW H) → Nat
  | [] => 0
  | x :: r => uptoBulkEntry x + uptoBulkEntries r
def uptoBulkEntry {H : Type} : Lit × DataW H → Nat
  | (.string bytes, d) => bytes.length + uptoBulk d + 1
  | (_, d) => uptoBulk d + 1
 end
def uptoSmall : (H : Type) → List (DataW H) → Bool := fun _ ds => decide (uptoBulkAll ds ≤ 1048576)
def OpenSpec.upto (s : _root_.Go.ChangeSpec) : _root_.Go.OpenSpec := { _root_.Go.OpenSpec.ofChange s with cond := some uptoSmall }

/-- 'laws.FnExactPutText', WHERE WHAT IT READS IS OF BULK AT MOST 1048576: true; the input reads as it did. -/
def fnExactPutTextUptoRow : OpenClaim := { program := "ytgncojbnejdplaa", sum := "5b43b624483f5059a3ff038f088270f595ada19efb5de22499f9864874dc648b", func := "loop.example/g00184/laws.FnExactPutText", spec := "fnExactPutText", apart := false, narrowed := true }
def FnExactPutTextUptoSaid : Prop := fnExactPutTextUptoRow.holds Try.pinned (OpenSpec.upto fnExactPutTextSpec)

/-- 'laws.FnExactMayHave', WHERE WHAT IT READS IS OF BULK AT MOST 1048576: true; the input reads as it did. -/
def fnExactMayHaveUptoRow : OpenClaim := { program := "ytgncojbnejdplaa", sum := "5b43b624483f5059a3ff038f088270f595ada19efb5de22499f9864874dc648b", func := "loop.example/g00184/laws.FnExactMayHave", spec := "fnExactMayHave", apart := false, narrowed := true }
def FnExactMayHaveUptoSaid : Prop := fnExactMayHaveUptoRow.holds Try.pinned (OpenSpec.upto fnExactMayHaveSpec)

/-- 'laws.FnNums', WHERE WHAT IT READS IS OF BULK AT MOST 1048576: true; the input reads as it did. -/
def fnNumsUptoRow : OpenClaim := { program := "ytgncojbnejdplaa", sum := "5b43b624483f5059a3ff038f088270f595ada19efb5de22499f9864874dc648b", func := "loop.example/g00184/laws.FnNums", spec := "fnNums", apart := false, narrowed := true }
def FnNumsUptoSaid : Prop := fnNumsUptoRow.holds Try.pinned (OpenSpec.upto fnNumsSpec)

/-- 'laws.FnOverlaps', WHERE WHAT IT READS IS OF BULK AT MOST 1048576: true; the input reads as it did. -/
def fnOverlapsUptoRow : OpenClaim := { program := "ytgncojbnejdplaa", sum := "5b43b624483f5059a3ff038f088270f595ada19efb5de22499f9864874dc648b", func := "loop.example/g00184/laws.FnOverlaps", spec := "fnOverlaps", apart := false, narrowed := true }
def FnOverlapsUptoSaid : Prop := fnOverlapsUptoRow.holds Try.pinned (OpenSpec.upto fnOverlapsSpec)

/-- 'laws.FnExactFrame', WHERE WHAT IT READS IS OF BULK AT MOST 1048576: true; the input reads as it did. -/
def fnExactFrameUptoRow : OpenClaim := { program := "ytgncojbnejdplaa", sum := "5b43b624483f5059a3ff038f088270f595ada19efb5de22499f9864874dc648b", func := "loop.example/g00184/laws.FnExactFrame", spec := "fnExactFrame", apart := false, narrowed := true }
def FnExactFrameUptoSaid : Prop := fnExactFrameUptoRow.holds Try.pinned (OpenSpec.upto fnExactFrameSpec)

/-- 'laws.FnExactMemGet', WHERE WHAT IT READS IS OF BULK AT MOST 1048576: true; the input reads as it did. -/
def fnExactMemGetUptoRow : OpenClaim := { program := "ytgncojbnejdplaa", sum := "5b43b624483f5059a3ff038f088270f595ada19efb5de22499f9864874dc648b", func := "loop.example/g00184/laws.FnExactMemGet", spec := "fnExactMemGet", apart := false, narrowed := true }
def FnExactMemGetUptoSaid : Prop := fnExactMemGetUptoRow.holds Try.pinned (OpenSpec.upto fnExactMemGetSpec)

/-- 'laws.FnExactRange', WHERE WHAT IT READS IS OF BULK AT MOST 1048576: true; the input reads as it did. -/
def fnExactRangeUptoRow : OpenClaim := { program := "ytgncojbnejdplaa", sum := "5b43b624483f5059a3ff038f088270f595ada19efb5de22499f9864874dc648b", func := "loop.example/g00184/laws.FnExactRange", spec := "fnExactRange", apart := false, narrowed := true }
def FnExactRangeUptoSaid : Prop := fnExactRangeUptoRow.holds Try.pinned (OpenSpec.upto fnExactRangeSpec)

/-- 'laws.FnExactMemOk', WHERE WHAT IT READS IS OF BULK AT MOST 1048576: true; the input reads as it did. -/
def fnExactMemOkUptoRow : OpenClaim := { program := "ytgncojbnejdplaa", sum := "5b43b624483f5059a3ff038f088270f595ada19efb5de22499f9864874dc648b", func := "loop.example/g00184/laws.FnExactMemOk", spec := "fnExactMemOk", apart := false, narrowed := true }
def FnExactMemOkUptoSaid : Prop := fnExactMemOkUptoRow.holds Try.pinned (OpenSpec.upto fnExactMemOkSpec)

/-- 'laws.FnExactFilter', WHERE WHAT IT READS IS OF BULK AT MOST 1048576: true; the input reads as it did. -/
def fnExactFilterUptoRow : OpenClaim := { program := "ytgncojbnejdplaa", sum := "5b43b624483f5059a3ff038f088270f595ada19efb5de22499f9864874dc648b", func := "loop.example/g00184/laws.FnExactFilter", spec := "fnExactFilter", apart := false, narrowed := true }
def FnExactFilterUptoSaid : Prop := fnExactFilterUptoRow.holds Try.pinned (OpenSpec.upto fnExactFilterSpec)

/-- 'laws.FnExactManOk', WHERE WHAT IT READS IS OF BULK AT MOST 1048576: true; the input reads as it did. -/
def fnExactManOkUptoRow : OpenClaim := { program := "ytgncojbnejdplaa", sum := "5b43b624483f5059a3ff038f088270f595ada19efb5de22499f9864874dc648b", func := "loop.example/g00184/laws.FnExactManOk", spec := "fnExactManOk", apart := false, narrowed := true }
def FnExactManOkUptoSaid : Prop := fnExactManOkUptoRow.holds Try.pinned (OpenSpec.upto fnExactManOkSpec)

/-- 'laws.FnExactUnframe', WHERE WHAT IT READS IS OF BULK AT MOST 1048576: true; the input reads as it did. -/
def fnExactUnframeUptoRow : OpenClaim := { program := "ytgncojbnejdplaa", sum := "5b43b624483f5059a3ff038f088270f595ada19efb5de22499f9864874dc648b", func := "loop.example/g00184/laws.FnExactUnframe", spec := "fnExactUnframe", apart := false, narrowed := true }
def FnExactUnframeUptoSaid : Prop := fnExactUnframeUptoRow.holds Try.pinned (OpenSpec.upto fnExactUnframeSpec)

/-- 'laws.FnFrames', WHERE WHAT IT READS IS OF BULK AT MOST 1048576: true; the input reads as it did. -/
def fnFramesUptoRow : OpenClaim := { program := "ytgncojbnejdplaa", sum := "5b43b624483f5059a3ff038f088270f595ada19efb5de22499f9864874dc648b", func := "loop.example/g00184/laws.FnFrames", spec := "fnFrames", apart := false, narrowed := true }
def FnFramesUptoSaid : Prop := fnFramesUptoRow.holds Try.pinned (OpenSpec.upto fnFramesSpec)

end Rows
end Go.Proofs.Ytgncojbnejdplaa
