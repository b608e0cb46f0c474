-- Laid by wip/myprint.py of this repo over the kit's print (the functions' texts by the kit's program, some by hand). Not trusted: Lean checks it.
import Derived.Test.YtofickldnpndbaaProg
import Derived.Below
import Derived.Deep.Draws
import Derived.Deep.AppendLies
import Derived.Maps.AppendAt
import Derived.OwnWalk
import Derived.Laws.BytesArg
import Derived.Laws.MakeOwn
import Derived.Laws.OwnMore
import Derived.Deep.OwnRows
import Derived.Tactics
import Derived.Lib.ConvBytes
import Derived.Laws.Slices
import Derived.WalkKit
import Derived.KernelRfl
import Derived.RowKit3
import Derived.Deep.LoopGhost
import Derived.Deep.QuietTactic
import Derived.BigQuiet
import Derived.WideLaws
import Derived.Deep.DeepCutAuto
import Derived.Deep.CutBlock
import Derived.Deep.RegionHeld3
import Derived.Laws.Rows
import Derived.Lib.AppendStr
import Derived.ArgAppend
import Derived.Laws.IdiomCopy
import Derived.OrdersHeld
import Derived.Laws.BitsLemmas
import Derived.RowKit
import Derived.Test.YtofickldnpndbaaWWords
import Derived.Test.YtofickldnpndbaaWLast
import Derived.Test.YtofickldnpndbaaWTab
import Derived.Test.YtofickldnpndbaaWFour
import Derived.Test.YtofickldnpndbaaWQPut
import Derived.Test.YtofickldnpndbaaWApart
import Derived.Test.YtofickldnpndbaaWArr
import Derived.Test.YtofickldnpndbaaWZeros
import Derived.Test.YtofickldnpndbaaWFoot
import Derived.Test.YtofickldnpndbaaWKept
import Derived.Test.YtofickldnpndbaaWShare
import Derived.Test.YtofickldnpndbaaWN
import Derived.Test.YtofickldnpndbaaWFootNe
import Derived.Test.YtofickldnpndbaaWAt
import Derived.Test.YtofickldnpndbaaWEqStruct
import Derived.Test.YtofickldnpndbaaWRepsOne
import Derived.Test.YtofickldnpndbaaWInv
import Derived.Test.YtofickldnpndbaaWInvWords
import Derived.Test.YtofickldnpndbaaWGuard
import Derived.Test.YtofickldnpndbaaWNEv
import Derived.Test.YtofickldnpndbaaWMore
import Derived.Test.YtofickldnpndbaaAlg
import Derived.Test.YtofickldnpndbaaByte
import Derived.Test.YtofickldnpndbaaAes
import Derived.Test.YtofickldnpndbaaHand
namespace Go.Proofs.Ytofickldnpndbaa.All
open Go.RowKit Go.Proofs.YtofickldnpndbaaW.PrintWords Go.Proofs.YtofickldnpndbaaW.PrintLast Go.Proofs.YtofickldnpndbaaW.PrintMore
attribute [local go_sem] max2_int min2_int max_two min_two max_three min_three max_four min_four
set_option linter.unusedVariables false
set_option linter.unusedSimpArgs false

def errW : Option Int → Value
  | none => .nilIface
  | some c => .iface 0 (.int .i64 c)
theorem errW_none : errW none = .nilIface := rfl
theorem errW_some (c : Int) : errW (some c) = .iface 0 (.int .i64 c) := rfl

theorem info2 : (Try.prog.info? 2).map (fun i => (i.zero, i.size, i.bytes)) = some (some (.int .i64 0), 1, 8) := by kernel_rfl
theorem info5 : (Try.prog.info? 5).map (fun i => (i.zero, i.size, i.bytes)) = some (some (.int .u8 0), 1, 1) := by kernel_rfl

end Go.Proofs.Ytofickldnpndbaa.All
