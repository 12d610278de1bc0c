/-
  No cell of these rows narrows 'for every input' (looked for: loops, veiled, ifaces, maps, wideKeys, modest, calm, conditions, laid).
  DERIVED. THE GIVEN ROWS OF THIS SEAT. 9 by the template 'for every input the law returns true; each argument reads behind the call as it read before'; 0 by the template 'total and deterministic' (their statements: YtgpkdbnikcghgaaTotals.lean).
  GIVEN WITH THE SEED: the statements are not yours to turn. If you find one false, say at which input.
  Laid BY PROGRAM, IN A SANDBOX (cutbox-rows.mjs): the forced cells as the released guide's own fill.sh prints them over the translation d197836c5294e44e… (all of the seat's roots in one cut). By AI agents, Wed Nov 11 2026. No macro, syntax, notation, axiom, sorry.
-/
import Derived.Test.YtgpkdbnikcghgaaChecked
import GoSem.Claim
import GoSem.ClaimJoined
import GoSem.ClaimMapViews
import Derived.JoinedTies
import Derived.KernelRfl
namespace Go.Proofs.Ytgpkdbnikcghgaa
/- THE CELL 'sum', in the pinned program and in every row, IS THE sha256 OF THE DUMP (.gsa) THAT YtgpkdbnikcghgaaProg.lean LOADS. Nothing in Lean hashes anything: it is a label: what it is worth is what the hold of that sum in a sandbox is worth. -/
noncomputable def Try.pinned : Pinned := { name := "ytgpkdbnikcghgaa", sum := "d197836c5294e44e01fad02e81c460dbd45e62bed210428c129b498105fba8e8", checked := Try.checked }
namespace Rows
def none {H : Type} : Left H := { results := [], args := [] }

/-- 'laws.FnExactRename': WHATEVER THE INPUT: true; the input reads as it did. -/
def fnExactRenameSpec : ChangeSpec := { name := "fnExactRename", fn := fun _ => fun
  | [d1, d2, d3] => { results := [.lit (.bool true)], args := [d1, d2, d3] }
  | _ => none }
def fnExactRenameRow : OpenClaim := { program := "ytgpkdbnikcghgaa", sum := "d197836c5294e44e01fad02e81c460dbd45e62bed210428c129b498105fba8e8", func := "loop.example/g00184/laws.FnExactRename", spec := "fnExactRename", inPlace := ["internal/reflectlite.ValueOf", "internal/reflectlite.Swapper", "(internal/reflectlite.Value).Len"], unfollowed := true, recurses := true, apart := false }
def FnExactRenameSaid : Prop := fnExactRenameRow.holds Try.pinned (OpenSpec.ofChange fnExactRenameSpec)

/-- ITS FALSE NEIGHBOUR: 'it returns false'. Refute it at one input. -/
def fnExactRenameWrong : ChangeSpec := { name := "fnExactRename", fn := fun _ => fun
  | [d1, d2, d3] => { results := [.lit (.bool false)], args := [d1, d2, d3] }
  | _ => none }
def FnExactRenameWrongFalsely : Prop := fnExactRenameRow.holds Try.pinned (OpenSpec.ofChange fnExactRenameWrong)

/-- 'laws.FnExactSyncDir': WHATEVER THE INPUT: true; the input reads as it did. -/
def fnExactSyncDirSpec : ChangeSpec := { name := "fnExactSyncDir", fn := fun _ => fun
  | [d] => { results := [.lit (.bool true)], args := [d] }
  | _ => none }
def fnExactSyncDirRow : OpenClaim := { program := "ytgpkdbnikcghgaa", sum := "d197836c5294e44e01fad02e81c460dbd45e62bed210428c129b498105fba8e8", func := "loop.example/g00184/laws.FnExactSyncDir", spec := "fnExactSyncDir", unfollowed := true, recurses := true, apart := false }
def FnExactSyncDirSaid : Prop := fnExactSyncDirRow.holds Try.pinned (OpenSpec.ofChange fnExactSyncDirSpec)

/-- ITS FALSE NEIGHBOUR: 'it returns false'. Refute it at one input. -/
def fnExactSyncDirWrong : ChangeSpec := { name := "fnExactSyncDir", fn := fun _ => fun
  | [d] => { results := [.lit (.bool false)], args := [d] }
  | _ => none }
def FnExactSyncDirWrongFalsely : Prop := fnExactSyncDirRow.holds Try.pinned (OpenSpec.ofChange fnExactSyncDirWrong)

/-- 'laws.FnExactSync': WHATEVER THE INPUT: true; the input reads as it did. -/
def fnExactSyncSpec : ChangeSpec := { name := "fnExactSync", fn := fun _ => fun
  | [d1, d2] => { results := [.lit (.bool true)], args := [d1, d2] }
  | _ => none }
def fnExactSyncRow : OpenClaim := { program := "ytgpkdbnikcghgaa", sum := "d197836c5294e44e01fad02e81c460dbd45e62bed210428c129b498105fba8e8", func := "loop.example/g00184/laws.FnExactSync", spec := "fnExactSync", unfollowed := true, recurses := true, apart := false }
def FnExactSyncSaid : Prop := fnExactSyncRow.holds Try.pinned (OpenSpec.ofChange fnExactSyncSpec)

/-- ITS FALSE NEIGHBOUR: 'it returns false'. Refute it at one input. -/
def fnExactSyncWrong : ChangeSpec := { name := "fnExactSync", fn := fun _ => fun
  | [d1, d2] => { results := [.lit (.bool false)], args := [d1, d2] }
  | _ => none }
def FnExactSyncWrongFalsely : Prop := fnExactSyncRow.holds Try.pinned (OpenSpec.ofChange fnExactSyncWrong)

/-- 'laws.FnExactAppend': WHATEVER THE INPUT: true; the input reads as it did. -/
def fnExactAppendSpec : ChangeSpec := { name := "fnExactAppend", fn := fun _ => fun
  | [d1, d2, d3] => { results := [.lit (.bool true)], args := [d1, d2, d3] }
  | _ => none }
def fnExactAppendRow : OpenClaim := { program := "ytgpkdbnikcghgaa", sum := "d197836c5294e44e01fad02e81c460dbd45e62bed210428c129b498105fba8e8", func := "loop.example/g00184/laws.FnExactAppend", spec := "fnExactAppend", unfollowed := true, recurses := true, apart := false }
def FnExactAppendSaid : Prop := fnExactAppendRow.holds Try.pinned (OpenSpec.ofChange fnExactAppendSpec)

/-- ITS FALSE NEIGHBOUR: 'it returns false'. Refute it at one input. -/
def fnExactAppendWrong : ChangeSpec := { name := "fnExactAppend", fn := fun _ => fun
  | [d1, d2, d3] => { results := [.lit (.bool false)], args := [d1, d2, d3] }
  | _ => none }
def FnExactAppendWrongFalsely : Prop := fnExactAppendRow.holds Try.pinned (OpenSpec.ofChange fnExactAppendWrong)

/-- 'laws.FnExactRemove': WHATEVER THE INPUT: true; the input reads as it did. -/
def fnExactRemoveSpec : ChangeSpec := { name := "fnExactRemove", fn := fun _ => fun
  | [d1, d2] => { results := [.lit (.bool true)], args := [d1, d2] }
  | _ => none }
def fnExactRemoveRow : OpenClaim := { program := "ytgpkdbnikcghgaa", sum := "d197836c5294e44e01fad02e81c460dbd45e62bed210428c129b498105fba8e8", func := "loop.example/g00184/laws.FnExactRemove", spec := "fnExactRemove", unfollowed := true, recurses := true, apart := false }
def FnExactRemoveSaid : Prop := fnExactRemoveRow.holds Try.pinned (OpenSpec.ofChange fnExactRemoveSpec)

/-- ITS FALSE NEIGHBOUR: 'it returns false'. Refute it at one input. -/
def fnExactRemoveWrong : ChangeSpec := { name := "fnExactRemove", fn := fun _ => fun
  | [d1, d2] => { results := [.lit (.bool false)], args := [d1, d2] }
  | _ => none }
def FnExactRemoveWrongFalsely : Prop := fnExactRemoveRow.holds Try.pinned (OpenSpec.ofChange fnExactRemoveWrong)

/-- 'laws.FnExactLog': WHATEVER THE INPUT: true; the input reads as it did. -/
def fnExactLogSpec : ChangeSpec := { name := "fnExactLog", fn := fun _ => fun
  | [d1, d2, d3] => { results := [.lit (.bool true)], args := [d1, d2, d3] }
  | _ => none }
def fnExactLogRow : OpenClaim := { program := "ytgpkdbnikcghgaa", sum := "d197836c5294e44e01fad02e81c460dbd45e62bed210428c129b498105fba8e8", func := "loop.example/g00184/laws.FnExactLog", spec := "fnExactLog", unfollowed := true, recurses := true, apart := false }
def FnExactLogSaid : Prop := fnExactLogRow.holds Try.pinned (OpenSpec.ofChange fnExactLogSpec)

/-- ITS FALSE NEIGHBOUR: 'it returns false'. Refute it at one input. -/
def fnExactLogWrong : ChangeSpec := { name := "fnExactLog", fn := fun _ => fun
  | [d1, d2, d3] => { results := [.lit (.bool false)], args := [d1, d2, d3] }
  | _ => none }
def FnExactLogWrongFalsely : Prop := fnExactLogRow.holds Try.pinned (OpenSpec.ofChange fnExactLogWrong)

/-- 'laws.FnFiles': WHATEVER THE INPUT: true; the input reads as it did. -/
def fnFilesSpec : ChangeSpec := { name := "fnFiles", fn := fun _ => fun
  | [d] => { results := [.lit (.bool true)], args := [d] }
  | _ => none }
def fnFilesRow : OpenClaim := { program := "ytgpkdbnikcghgaa", sum := "d197836c5294e44e01fad02e81c460dbd45e62bed210428c129b498105fba8e8", func := "loop.example/g00184/laws.FnFiles", spec := "fnFiles", inPlace := ["internal/reflectlite.ValueOf", "internal/reflectlite.Swapper", "(internal/reflectlite.Value).Len"], unfollowed := true, recurses := true, apart := false }
def FnFilesSaid : Prop := fnFilesRow.holds Try.pinned (OpenSpec.ofChange fnFilesSpec)

/-- ITS FALSE NEIGHBOUR: 'it returns false'. Refute it at one input. -/
def fnFilesWrong : ChangeSpec := { name := "fnFiles", fn := fun _ => fun
  | [d] => { results := [.lit (.bool false)], args := [d] }
  | _ => none }
def FnFilesWrongFalsely : Prop := fnFilesRow.holds Try.pinned (OpenSpec.ofChange fnFilesWrong)

/-- 'laws.FnNames': WHATEVER THE INPUT: true; the input reads as it did. -/
def fnNamesSpec : ChangeSpec := { name := "fnNames", fn := fun _ => fun
  | [d] => { results := [.lit (.bool true)], args := [d] }
  | _ => none }
def fnNamesRow : OpenClaim := { program := "ytgpkdbnikcghgaa", sum := "d197836c5294e44e01fad02e81c460dbd45e62bed210428c129b498105fba8e8", func := "loop.example/g00184/laws.FnNames", spec := "fnNames", inPlace := ["internal/reflectlite.ValueOf", "internal/reflectlite.Swapper", "(internal/reflectlite.Value).Len"], unfollowed := true, recurses := true, apart := false }
def FnNamesSaid : Prop := fnNamesRow.holds Try.pinned (OpenSpec.ofChange fnNamesSpec)

/-- ITS FALSE NEIGHBOUR: 'it returns false'. Refute it at one input. -/
def fnNamesWrong : ChangeSpec := { name := "fnNames", fn := fun _ => fun
  | [d] => { results := [.lit (.bool false)], args := [d] }
  | _ => none }
def FnNamesWrongFalsely : Prop := fnNamesRow.holds Try.pinned (OpenSpec.ofChange fnNamesWrong)

/-- 'laws.FnExactCreate': WHATEVER THE INPUT: true; the input reads as it did. -/
def fnExactCreateSpec : ChangeSpec := { name := "fnExactCreate", fn := fun _ => fun
  | [d1, d2] => { results := [.lit (.bool true)], args := [d1, d2] }
  | _ => none }
def fnExactCreateRow : OpenClaim := { program := "ytgpkdbnikcghgaa", sum := "d197836c5294e44e01fad02e81c460dbd45e62bed210428c129b498105fba8e8", func := "loop.example/g00184/laws.FnExactCreate", spec := "fnExactCreate", inPlace := ["internal/reflectlite.ValueOf", "internal/reflectlite.Swapper", "(internal/reflectlite.Value).Len"], unfollowed := true, recurses := true, apart := false }
def FnExactCreateSaid : Prop := fnExactCreateRow.holds Try.pinned (OpenSpec.ofChange fnExactCreateSpec)

/-- ITS FALSE NEIGHBOUR: 'it returns false'. Refute it at one input. -/
def fnExactCreateWrong : ChangeSpec := { name := "fnExactCreate", fn := fun _ => fun
  | [d1, d2] => { results := [.lit (.bool false)], args := [d1, d2] }
  | _ => none }
def FnExactCreateWrongFalsely : Prop := fnExactCreateRow.holds Try.pinned (OpenSpec.ofChange fnExactCreateWrong)

/- THE SECOND FORM. 'bulk': how many values and letters a reading holds, each counted each time it is reached (what is shared counts as often as it is met; a slice's spare places count too). A statement '..UptoSaid' is the law's where the arguments, and the package variables that the reading takes, are together of bulk at most 1048576: NARROWER than '..Said'. Prove '..Said' where nothing that the law and all that it calls make is longer than what came in: it says more and counts as full. Else prove '..UptoSaid'. A law counts once. -/
mutual
def uptoBulk {H : Type} : DataW H → Nat
  | .lit (.string bytes) => bytes.length + 1
  | .lit _ => 1
  | .nil => 1
  | .ptr d => uptoBulk d + 1
  | .slice elems spare => uptoBulkAll elems + uptoBulkAll spare + 1
  | .agg parts => uptoBulkAll parts + 1
  | .iface _ d => uptoBulk d + 1
  | .map entries => uptoBulkEntries entries + 1
  | .held _ => 1
def uptoBulkAll {H : Type} : List (DataW H) → Nat
  | [] => 0
  | d :: r => uptoBulk d + uptoBulkAll r
def uptoBulkEntries {H : Type} : List (Lit × DataW H) → Nat
  | [] => 0
  | x :: r => uptoBulkEntry x + uptoBulkEntries r
def uptoBulkEntry {H : Type} : Lit × DataW H → Nat
  | (.string bytes, d) => bytes.length + uptoBulk d + 1
  | (_, d) => uptoBulk d + 1
 end
def uptoSmall : (H : Type) → List (DataW H) → Bool := fun _ ds => decide (uptoBulkAll ds ≤ 1048576)
def OpenSpec.upto (s : _root_.Go.ChangeSpec) : _root_.Go.OpenSpec := { _root_.Go.OpenSpec.ofChange s with cond := some uptoSmall }

/-- 'laws.FnExactRename', WHERE WHAT IT READS IS OF BULK AT MOST 1048576: true; the input reads as it did. -/
def fnExactRenameUptoRow : OpenClaim := { program := "ytgpkdbnikcghgaa", sum := "d197836c5294e44e01fad02e81c460dbd45e62bed210428c129b498105fba8e8", func := "loop.example/g00184/laws.FnExactRename", spec := "fnExactRename", inPlace := ["internal/reflectlite.ValueOf", "internal/reflectlite.Swapper", "(internal/reflectlite.Value).Len"], unfollowed := true, recurses := true, apart := false, narrowed := true }
def FnExactRenameUptoSaid : Prop := fnExactRenameUptoRow.holds Try.pinned (OpenSpec.upto fnExactRenameSpec)

/-- 'laws.FnExactSyncDir', WHERE WHAT IT READS IS OF BULK AT MOST 1048576: true; the input reads as it did. -/
def fnExactSyncDirUptoRow : OpenClaim := { program := "ytgpkdbnikcghgaa", sum := "d197836c5294e44e01fad02e81c460dbd45e62bed210428c129b498105fba8e8", func := "loop.example/g00184/laws.FnExactSyncDir", spec := "fnExactSyncDir", unfollowed := true, recurses := true, apart := false, narrowed := true }
def FnExactSyncDirUptoSaid : Prop := fnExactSyncDirUptoRow.holds Try.pinned (OpenSpec.upto fnExactSyncDirSpec)

/-- 'laws.FnExactSync', WHERE WHAT IT READS IS OF BULK AT MOST 1048576: true; the input reads as it did. -/
def fnExactSyncUptoRow : OpenClaim := { program := "ytgpkdbnikcghgaa", sum := "d197836c5294e44e01fad02e81c460dbd45e62bed210428c129b498105fba8e8", func := "loop.example/g00184/laws.FnExactSync", spec := "fnExactSync", unfollowed := true, recurses := true, apart := false, narrowed := true }
def FnExactSyncUptoSaid : Prop := fnExactSyncUptoRow.holds Try.pinned (OpenSpec.upto fnExactSyncSpec)

/-- 'laws.FnExactAppend', WHERE WHAT IT READS IS OF BULK AT MOST 1048576: true; the input reads as it did. -/
def fnExactAppendUptoRow : OpenClaim := { program := "ytgpkdbnikcghgaa", sum := "d197836c5294e44e01fad02e81c460dbd45e62bed210428c129b498105fba8e8", func := "loop.example/g00184/laws.FnExactAppend", spec := "fnExactAppend", unfollowed := true, recurses := true, apart := false, narrowed := true }
def FnExactAppendUptoSaid : Prop := fnExactAppendUptoRow.holds Try.pinned (OpenSpec.upto fnExactAppendSpec)

/-- 'laws.FnExactRemove', WHERE WHAT IT READS IS OF BULK AT MOST 1048576: true; the input reads as it did. -/
def fnExactRemoveUptoRow : OpenClaim := { program := "ytgpkdbnikcghgaa", sum := "d197836c5294e44e01fad02e81c460dbd45e62bed210428c129b498105fba8e8", func := "loop.example/g00184/laws.FnExactRemove", spec := "fnExactRemove", unfollowed := true, recurses := true, apart := false, narrowed := true }
def FnExactRemoveUptoSaid : Prop := fnExactRemoveUptoRow.holds Try.pinned (OpenSpec.upto fnExactRemoveSpec)

/-- 'laws.FnExactLog', WHERE WHAT IT READS IS OF BULK AT MOST 1048576: true; the input reads as it did. -/
def fnExactLogUptoRow : OpenClaim := { program := "ytgpkdbnikcghgaa", sum := "d197836c5294e44e01fad02e81c460dbd45e62bed210428c129b498105fba8e8", func := "loop.example/g00184/laws.FnExactLog", spec := "fnExactLog", unfollowed := true, recurses := true, apart := false, narrowed := true }
def FnExactLogUptoSaid : Prop := fnExactLogUptoRow.holds Try.pinned (OpenSpec.upto fnExactLogSpec)

/-- 'laws.FnFiles', WHERE WHAT IT READS IS OF BULK AT MOST 1048576: true; the input reads as it did. -/
def fnFilesUptoRow : OpenClaim := { program := "ytgpkdbnikcghgaa", sum := "d197836c5294e44e01fad02e81c460dbd45e62bed210428c129b498105fba8e8", func := "loop.example/g00184/laws.FnFiles", spec := "fnFiles", inPlace := ["internal/reflectlite.ValueOf", "internal/reflectlite.Swapper", "(internal/reflectlite.Value).Len"], unfollowed := true, recurses := true, apart := false, narrowed := true }
def FnFilesUptoSaid : Prop := fnFilesUptoRow.holds Try.pinned (OpenSpec.upto fnFilesSpec)

/-- 'laws.FnNames', WHERE WHAT IT READS IS OF BULK AT MOST 1048576: true; the input reads as it did. -/
def fnNamesUptoRow : OpenClaim := { program := "ytgpkdbnikcghgaa", sum := "d197836c5294e44e01fad02e81c460dbd45e62bed210428c129b498105fba8e8", func := "loop.example/g00184/laws.FnNames", spec := "fnNames", inPlace := ["internal/reflectlite.ValueOf", "internal/reflectlite.Swapper", "(internal/reflectlite.Value).Len"], unfollowed := true, recurses := true, apart := false, narrowed := true }
def FnNamesUptoSaid : Prop := fnNamesUptoRow.holds Try.pinned (OpenSpec.upto fnNamesSpec)

/-- 'laws.FnExactCreate', WHERE WHAT IT READS IS OF BULK AT MOST 1048576: true; the input reads as it did. -/
def fnExactCreateUptoRow : OpenClaim := { program := "ytgpkdbnikcghgaa", sum := "d197836c5294e44e01fad02e81c460dbd45e62bed210428c129b498105fba8e8", func := "loop.example/g00184/laws.FnExactCreate", spec := "fnExactCreate", inPlace := ["internal/reflectlite.ValueOf", "internal/reflectlite.Swapper", "(internal/reflectlite.Value).Len"], unfollowed := true, recurses := true, apart := false, narrowed := true }
def FnExactCreateUptoSaid : Prop := fnExactCreateUptoRow.holds Try.pinned (OpenSpec.upto fnExactCreateSpec)

end Rows
end Go.Proofs.Ytgpkdbnikcghgaa
