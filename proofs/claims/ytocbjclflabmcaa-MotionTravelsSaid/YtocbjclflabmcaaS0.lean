-- PRINTED by print.py (a twelfth state) out of the translation. Not trusted: Lean checks it.
import Derived.Test.YtocbjclflabmcaaProg
import Derived.Below
import Derived.Deep.Draws
import Derived.Deep.AppendLies
import Derived.Maps.AppendAt
import Derived.OwnWalk
import Derived.Laws.BytesArg
import Derived.Laws.MakeOwn
import Derived.Laws.OwnMore
import Derived.Deep.OwnRows
import Derived.Tactics
import Derived.Lib.ConvBytes
import Derived.Laws.Slices
import Derived.WalkKit
import Derived.KernelRfl
import Derived.RowKit3
import Derived.Deep.LoopGhost
import Derived.Deep.QuietTactic
import Derived.BigQuiet
import Derived.WideLaws
import Derived.Deep.DeepCutAuto
import Derived.Deep.CutBlock
import Derived.Deep.RegionHeld3
import Derived.Laws.Rows
import Derived.Lib.AppendStr
import Derived.ArgAppend
import Derived.Laws.IdiomCopy
import Derived.OrdersHeld
import Derived.Laws.BitsLemmas
import Derived.RowKit
import Derived.Test.YtocbjclflabmcaaXtra
import Derived.Test.YtocbjclflabmcaaWWords
import Derived.Test.YtocbjclflabmcaaWLast
import Derived.Test.YtocbjclflabmcaaWTab
import Derived.Test.YtocbjclflabmcaaWFour
import Derived.Test.YtocbjclflabmcaaWQPut
import Derived.Test.YtocbjclflabmcaaWApart
import Derived.Test.YtocbjclflabmcaaWArr
import Derived.Test.YtocbjclflabmcaaWZeros
import Derived.Test.YtocbjclflabmcaaWFoot
import Derived.Test.YtocbjclflabmcaaWKept
import Derived.Test.YtocbjclflabmcaaWShare
import Derived.Test.YtocbjclflabmcaaWN
import Derived.Test.YtocbjclflabmcaaWFootNe
import Derived.Test.YtocbjclflabmcaaWAt
import Derived.Test.YtocbjclflabmcaaWEqStruct
import Derived.Test.YtocbjclflabmcaaWRepsOne
import Derived.Test.YtocbjclflabmcaaWInv
import Derived.Test.YtocbjclflabmcaaWInvWords
import Derived.Test.YtocbjclflabmcaaWGuard
import Derived.Test.YtocbjclflabmcaaWNEv
import Derived.Test.YtocbjclflabmcaaWMore
namespace Go.Proofs.Ytocbjclflabmcaa.S
open Go.RowKit Go.Proofs.YtocbjclflabmcaaW.PrintWords Go.Proofs.YtocbjclflabmcaaW.PrintLast Go.Proofs.YtocbjclflabmcaaW.PrintMore
attribute [local go_sem] Go.Proofs.YtocbjclflabmcaaW.PrintXtra.isSome_setCell max2_int min2_int max_two min_two max_three min_three max_four min_four   -- for this text's walks alone
set_option linter.unusedVariables false
set_option linter.unusedSimpArgs false



def errW : Option Int → Value
  | none => .nilIface
  | some c => .iface 0 (.int .i64 c)
theorem errW_none : errW none = .nilIface := rfl
theorem errW_some (c : Int) : errW (some c) = .iface 0 (.int .i64 c) := rfl

theorem info3 : (Try.prog.info? 3).map (fun i => (i.zero, i.size, i.bytes)) = some (some (.int .i64 0), 1, 8) := by kernel_rfl
-- the values' own types

abbrev X : Bool := true
abbrev Z : Bool := false
theorem sA {α : Type} (l : List α) (i : Nat) (a : α) : l.toArray.setIfInBounds i a = (l.set i a).toArray := List.setIfInBounds_toArray l i a
theorem sB {α : Type} (x a : α) (l : List α) : (x :: l).set 0 a = a :: l := List.set_cons_zero
theorem sC {α : Type} (x a : α) (n : Nat) (l : List α) : (x :: l).set (n + 1) a = x :: l.set n a := List.set_cons_succ
end Go.Proofs.Ytocbjclflabmcaa.S
