-- PRINTED by print.py (a twelfth state) out of the translation. Not trusted: Lean checks it.
import Derived.Test.YtgjcpocncpeibaaProg
import Derived.Below
import Derived.Deep.Draws
import Derived.Deep.AppendLies
import Derived.Maps.AppendAt
import Derived.OwnWalk
import Derived.Laws.BytesArg
import Derived.Laws.MakeOwn
import Derived.Laws.OwnMore
import Derived.Deep.OwnRows
import Derived.Tactics
import Derived.Lib.ConvBytes
import Derived.Laws.Slices
import Derived.WalkKit
import Derived.KernelRfl
import Derived.RowKit3
import Derived.Deep.LoopGhost
import Derived.Deep.QuietTactic
import Derived.BigQuiet
import Derived.WideLaws
import Derived.Deep.DeepCutAuto
import Derived.Deep.CutBlock
import Derived.Deep.RegionHeld3
import Derived.Laws.Rows
import Derived.Lib.AppendStr
import Derived.ArgAppend
import Derived.Laws.IdiomCopy
import Derived.OrdersHeld
import Derived.Laws.BitsLemmas
import Derived.RowKit
import Derived.Test.YtgjcpocncpeibaaXtra
import Derived.Test.YtgjcpocncpeibaaWWords
import Derived.Test.YtgjcpocncpeibaaWLast
import Derived.Test.YtgjcpocncpeibaaWTab
import Derived.Test.YtgjcpocncpeibaaWFour
import Derived.Test.YtgjcpocncpeibaaWQPut
import Derived.Test.YtgjcpocncpeibaaWApart
import Derived.Test.YtgjcpocncpeibaaWArr
import Derived.Test.YtgjcpocncpeibaaWZeros
import Derived.Test.YtgjcpocncpeibaaWFoot
import Derived.Test.YtgjcpocncpeibaaWKept
import Derived.Test.YtgjcpocncpeibaaWShare
import Derived.Test.YtgjcpocncpeibaaWN
import Derived.Test.YtgjcpocncpeibaaWFootNe
import Derived.Test.YtgjcpocncpeibaaWAt
import Derived.Test.YtgjcpocncpeibaaWEqStruct
import Derived.Test.YtgjcpocncpeibaaWRepsOne
import Derived.Test.YtgjcpocncpeibaaWInv
import Derived.Test.YtgjcpocncpeibaaWInvWords
import Derived.Test.YtgjcpocncpeibaaWGuard
import Derived.Test.YtgjcpocncpeibaaWNEv
import Derived.Test.YtgjcpocncpeibaaWMore
namespace Go.Proofs.Ytgjcpocncpeibaa.S
open Go.RowKit Go.Proofs.YtgjcpocncpeibaaW.PrintWords Go.Proofs.YtgjcpocncpeibaaW.PrintLast Go.Proofs.YtgjcpocncpeibaaW.PrintMore
attribute [local go_sem] Go.Proofs.YtgjcpocncpeibaaW.PrintXtra.isSome_setCell max2_int min2_int max_two min_two max_three min_three max_four min_four   -- for this text's walks alone
set_option linter.unusedVariables false
set_option linter.unusedSimpArgs false



def errW : Option Int → Value
  | none => .nilIface
  | some c => .iface 0 (.int .i64 c)
theorem errW_none : errW none = .nilIface := rfl
theorem errW_some (c : Int) : errW (some c) = .iface 0 (.int .i64 c) := rfl

theorem info3 : (Try.prog.info? 3).map (fun i => (i.zero, i.size, i.bytes)) = some (some (.int .i64 0), 1, 8) := by kernel_rfl
-- the values' own types

end Go.Proofs.Ytgjcpocncpeibaa.S
