-- PRINTED by print.py (a twelfth state) out of the translation. Not trusted: Lean checks it.
import Derived.Test.YtghcckbdfmpgjaaDoorProg
import Derived.Below
import Derived.Deep.Draws
import Derived.Deep.AppendLies
import Derived.Maps.AppendAt
import Derived.OwnWalk
import Derived.Laws.BytesArg
import Derived.Laws.MakeOwn
import Derived.Laws.OwnMore
import Derived.Deep.OwnRows
import Derived.Tactics
import Derived.Lib.ConvBytes
import Derived.Laws.Slices
import Derived.WalkKit
import Derived.KernelRfl
import Derived.RowKit3
import Derived.Deep.LoopGhost
import Derived.Deep.QuietTactic
import Derived.BigQuiet
import Derived.WideLaws
import Derived.Deep.DeepCutAuto
import Derived.Deep.CutBlock
import Derived.Deep.RegionHeld3
import Derived.Laws.Rows
import Derived.Lib.AppendStr
import Derived.ArgAppend
import Derived.Laws.IdiomCopy
import Derived.OrdersHeld
import Derived.Laws.BitsLemmas
import Derived.RowKit
import Derived.Test.YtghcckbdfmpgjaaDoorXtra
import Derived.Test.YtghcckbdfmpgjaaDoorWWords
import Derived.Test.YtghcckbdfmpgjaaDoorWLast
import Derived.Test.YtghcckbdfmpgjaaDoorWTab
import Derived.Test.YtghcckbdfmpgjaaDoorWFour
import Derived.Test.YtghcckbdfmpgjaaDoorWQPut
import Derived.Test.YtghcckbdfmpgjaaDoorWApart
import Derived.Test.YtghcckbdfmpgjaaDoorWArr
import Derived.Test.YtghcckbdfmpgjaaDoorWZeros
import Derived.Test.YtghcckbdfmpgjaaDoorWFoot
import Derived.Test.YtghcckbdfmpgjaaDoorWKept
import Derived.Test.YtghcckbdfmpgjaaDoorWShare
import Derived.Test.YtghcckbdfmpgjaaDoorWN
import Derived.Test.YtghcckbdfmpgjaaDoorWFootNe
import Derived.Test.YtghcckbdfmpgjaaDoorWAt
import Derived.Test.YtghcckbdfmpgjaaDoorWEqStruct
import Derived.Test.YtghcckbdfmpgjaaDoorWRepsOne
import Derived.Test.YtghcckbdfmpgjaaDoorWInv
import Derived.Test.YtghcckbdfmpgjaaDoorWInvWords
import Derived.Test.YtghcckbdfmpgjaaDoorWGuard
import Derived.Test.YtghcckbdfmpgjaaDoorWNEv
import Derived.Test.YtghcckbdfmpgjaaDoorWMore
namespace Go.Proofs.YtghcckbdfmpgjaaDoor.S
open Go.RowKit Go.Proofs.YtghcckbdfmpgjaaDoorW.PrintWords Go.Proofs.YtghcckbdfmpgjaaDoorW.PrintLast Go.Proofs.YtghcckbdfmpgjaaDoorW.PrintMore
attribute [local go_sem] Go.Proofs.YtghcckbdfmpgjaaDoorW.PrintXtra.isSome_setCell max2_int min2_int max_two min_two max_three min_three max_four min_four   -- for this text's walks alone
set_option linter.unusedVariables false
set_option linter.unusedSimpArgs false



def errW : Option Int → Value
  | none => .nilIface
  | some c => .iface 0 (.int .i64 c)
theorem errW_none : errW none = .nilIface := rfl
theorem errW_some (c : Int) : errW (some c) = .iface 0 (.int .i64 c) := rfl

theorem info5 : (Tryd.prog.info? 5).map (fun i => (i.zero, i.size, i.bytes)) = some (some (.int .u8 0), 1, 1) := by kernel_rfl
-- the values' own types

end Go.Proofs.YtghcckbdfmpgjaaDoor.S
