-- Laid by wip/myprint.py of this repo over the kit's print (the functions' texts by the kit's program, some by hand). Not trusted: Lean checks it.
import Derived.Test.YtndahpbmjjodpaaProg
import Derived.Below
import Derived.Deep.Draws
import Derived.Deep.AppendLies
import Derived.Maps.AppendAt
import Derived.OwnWalk
import Derived.Laws.BytesArg
import Derived.Laws.MakeOwn
import Derived.Laws.OwnMore
import Derived.Deep.OwnRows
import Derived.Tactics
import Derived.Lib.ConvBytes
import Derived.Laws.Slices
import Derived.WalkKit
import Derived.KernelRfl
import Derived.RowKit3
import Derived.Deep.LoopGhost
import Derived.Deep.QuietTactic
import Derived.BigQuiet
import Derived.WideLaws
import Derived.Deep.DeepCutAuto
import Derived.Deep.CutBlock
import Derived.Deep.RegionHeld3
import Derived.Laws.Rows
import Derived.Lib.AppendStr
import Derived.ArgAppend
import Derived.Laws.IdiomCopy
import Derived.OrdersHeld
import Derived.Laws.BitsLemmas
import Derived.RowKit
import Derived.Test.YtndahpbmjjodpaaWWords
import Derived.Test.YtndahpbmjjodpaaWLast
import Derived.Test.YtndahpbmjjodpaaWTab
import Derived.Test.YtndahpbmjjodpaaWFour
import Derived.Test.YtndahpbmjjodpaaWQPut
import Derived.Test.YtndahpbmjjodpaaWApart
import Derived.Test.YtndahpbmjjodpaaWArr
import Derived.Test.YtndahpbmjjodpaaWZeros
import Derived.Test.YtndahpbmjjodpaaWFoot
import Derived.Test.YtndahpbmjjodpaaWKept
import Derived.Test.YtndahpbmjjodpaaWShare
import Derived.Test.YtndahpbmjjodpaaWN
import Derived.Test.YtndahpbmjjodpaaWFootNe
import Derived.Test.YtndahpbmjjodpaaWAt
import Derived.Test.YtndahpbmjjodpaaWEqStruct
import Derived.Test.YtndahpbmjjodpaaWRepsOne
import Derived.Test.YtndahpbmjjodpaaWInv
import Derived.Test.YtndahpbmjjodpaaWInvWords
import Derived.Test.YtndahpbmjjodpaaWGuard
import Derived.Test.YtndahpbmjjodpaaWNEv
import Derived.Test.YtndahpbmjjodpaaWMore
import Derived.Test.YtndahpbmjjodpaaAlg
import Derived.Test.YtndahpbmjjodpaaByte
import Derived.Test.YtndahpbmjjodpaaAes
import Derived.Test.YtndahpbmjjodpaaHand
namespace Go.Proofs.Ytndahpbmjjodpaa.All
open Go.RowKit Go.Proofs.YtndahpbmjjodpaaW.PrintWords Go.Proofs.YtndahpbmjjodpaaW.PrintLast Go.Proofs.YtndahpbmjjodpaaW.PrintMore
attribute [local go_sem] max2_int min2_int max_two min_two max_three min_three max_four min_four
set_option linter.unusedVariables false
set_option linter.unusedSimpArgs false

def errW : Option Int → Value
  | none => .nilIface
  | some c => .iface 0 (.int .i64 c)
theorem errW_none : errW none = .nilIface := rfl
theorem errW_some (c : Int) : errW (some c) = .iface 0 (.int .i64 c) := rfl

theorem info2 : (Try.prog.info? 2).map (fun i => (i.zero, i.size, i.bytes)) = some (some (.int .i64 0), 1, 8) := by kernel_rfl
theorem info5 : (Try.prog.info? 5).map (fun i => (i.zero, i.size, i.bytes)) = some (some (.int .u8 0), 1, 1) := by kernel_rfl

end Go.Proofs.Ytndahpbmjjodpaa.All
