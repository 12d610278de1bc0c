-- Written by mp.py, this session's own printer (wip/mp.py).
import Derived.Test.YtjpemgjnpbipnaaProg
import Derived.Below
import Derived.Deep.Draws
import Derived.Deep.AppendLies
import Derived.Maps.AppendAt
import Derived.OwnWalk
import Derived.Laws.BytesArg
import Derived.Laws.MakeOwn
import Derived.Laws.OwnMore
import Derived.Deep.OwnRows
import Derived.Tactics
import Derived.Lib.ConvBytes
import Derived.Laws.Slices
import Derived.WalkKit
import Derived.KernelRfl
import Derived.RowKit3
import Derived.Deep.LoopGhost
import Derived.Deep.QuietTactic
import Derived.BigQuiet
import Derived.WideLaws
import Derived.Deep.DeepCutAuto
import Derived.Deep.CutBlock
import Derived.Deep.RegionHeld3
import Derived.Laws.Rows
import Derived.Lib.AppendStr
import Derived.ArgAppend
import Derived.Laws.IdiomCopy
import Derived.OrdersHeld
import Derived.Laws.BitsLemmas
import Derived.RowKit
import Derived.Test.YtjpemgjnpbipnaaWWords
import Derived.Test.YtjpemgjnpbipnaaWLast
import Derived.Test.YtjpemgjnpbipnaaWTab
import Derived.Test.YtjpemgjnpbipnaaWFour
import Derived.Test.YtjpemgjnpbipnaaWQPut
import Derived.Test.YtjpemgjnpbipnaaWApart
import Derived.Test.YtjpemgjnpbipnaaWArr
import Derived.Test.YtjpemgjnpbipnaaWZeros
import Derived.Test.YtjpemgjnpbipnaaWFoot
import Derived.Test.YtjpemgjnpbipnaaWKept
import Derived.Test.YtjpemgjnpbipnaaWShare
import Derived.Test.YtjpemgjnpbipnaaWN
import Derived.Test.YtjpemgjnpbipnaaWFootNe
import Derived.Test.YtjpemgjnpbipnaaWAt
import Derived.Test.YtjpemgjnpbipnaaWEqStruct
import Derived.Test.YtjpemgjnpbipnaaWRepsOne
import Derived.Test.YtjpemgjnpbipnaaWInv
import Derived.Test.YtjpemgjnpbipnaaWInvWords
import Derived.Test.YtjpemgjnpbipnaaWGuard
import Derived.Test.YtjpemgjnpbipnaaWNEv
import Derived.Test.YtjpemgjnpbipnaaWMore
namespace Go.Proofs.Ytjpemgjnpbipnaa.MFnExactMark
open Go.RowKit Go.Proofs.YtjpemgjnpbipnaaW.PrintWords Go.Proofs.YtjpemgjnpbipnaaW.PrintLast Go.Proofs.YtjpemgjnpbipnaaW.PrintMore
attribute [local go_sem] max2_int min2_int max_two min_two max_three min_three max_four min_four   -- for this text's walks alone
set_option linter.unusedVariables false
set_option linter.unusedSimpArgs false



def errW : Option Int → Value
  | none => .nilIface
  | some c => .iface 0 (.int .i64 c)
theorem errW_none : errW none = .nilIface := rfl
theorem errW_some (c : Int) : errW (some c) = .iface 0 (.int .i64 c) := rfl

-- the values' own types

end Go.Proofs.Ytjpemgjnpbipnaa.MFnExactMark
