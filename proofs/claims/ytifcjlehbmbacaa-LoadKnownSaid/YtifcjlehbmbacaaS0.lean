-- PRINTED by print.py (a twelfth state) out of the translation. Not trusted: Lean checks it.
import Derived.Test.YtifcjlehbmbacaaProg
import Derived.Below
import Derived.Deep.Draws
import Derived.Deep.AppendLies
import Derived.Maps.AppendAt
import Derived.OwnWalk
import Derived.Laws.BytesArg
import Derived.Laws.MakeOwn
import Derived.Laws.OwnMore
import Derived.Deep.OwnRows
import Derived.Tactics
import Derived.Lib.ConvBytes
import Derived.Laws.Slices
import Derived.WalkKit
import Derived.KernelRfl
import Derived.RowKit3
import Derived.Deep.LoopGhost
import Derived.Deep.QuietTactic
import Derived.BigQuiet
import Derived.WideLaws
import Derived.Deep.DeepCutAuto
import Derived.Deep.CutBlock
import Derived.Deep.RegionHeld3
import Derived.Laws.Rows
import Derived.Lib.AppendStr
import Derived.ArgAppend
import Derived.Laws.IdiomCopy
import Derived.OrdersHeld
import Derived.Laws.BitsLemmas
import Derived.RowKit
import Derived.Test.YtifcjlehbmbacaaXtra
import Derived.Test.YtifcjlehbmbacaaWWords
import Derived.Test.YtifcjlehbmbacaaWLast
import Derived.Test.YtifcjlehbmbacaaWTab
import Derived.Test.YtifcjlehbmbacaaWFour
import Derived.Test.YtifcjlehbmbacaaWQPut
import Derived.Test.YtifcjlehbmbacaaWApart
import Derived.Test.YtifcjlehbmbacaaWArr
import Derived.Test.YtifcjlehbmbacaaWZeros
import Derived.Test.YtifcjlehbmbacaaWFoot
import Derived.Test.YtifcjlehbmbacaaWKept
import Derived.Test.YtifcjlehbmbacaaWShare
import Derived.Test.YtifcjlehbmbacaaWN
import Derived.Test.YtifcjlehbmbacaaWFootNe
import Derived.Test.YtifcjlehbmbacaaWAt
import Derived.Test.YtifcjlehbmbacaaWEqStruct
import Derived.Test.YtifcjlehbmbacaaWRepsOne
import Derived.Test.YtifcjlehbmbacaaWInv
import Derived.Test.YtifcjlehbmbacaaWInvWords
import Derived.Test.YtifcjlehbmbacaaWGuard
import Derived.Test.YtifcjlehbmbacaaWNEv
import Derived.Test.YtifcjlehbmbacaaWMore
namespace Go.Proofs.Ytifcjlehbmbacaa.S
open Go.RowKit Go.Proofs.YtifcjlehbmbacaaW.PrintWords Go.Proofs.YtifcjlehbmbacaaW.PrintLast Go.Proofs.YtifcjlehbmbacaaW.PrintMore
attribute [local go_sem] Go.Proofs.YtifcjlehbmbacaaW.PrintXtra.isSome_setCell max2_int min2_int max_two min_two max_three min_three max_four min_four   -- for this text's walks alone
set_option linter.unusedVariables false
set_option linter.unusedSimpArgs false



def errW : Option Int → Value
  | none => .nilIface
  | some c => .iface 0 (.int .i64 c)
theorem errW_none : errW none = .nilIface := rfl
theorem errW_some (c : Int) : errW (some c) = .iface 0 (.int .i64 c) := rfl

theorem info3 : (Try.prog.info? 3).map (fun i => (i.zero, i.size, i.bytes)) = some (some (.int .i64 0), 1, 8) := by kernel_rfl
-- the values' own types

end Go.Proofs.Ytifcjlehbmbacaa.S
