/- The pure statement of ReportSums. -/
import Derived.Test.YtenlokaaloenmaaDoorM9
import Derived.Test.YtenlokaaloenmaaDoorOpens
namespace Go.Proofs.YtenlokaaloenmaaDoor.Pure
open Go.RowKit Go.Proofs.YtenlokaaloenmaaDoor.S Go.Proofs.YtenlokaaloenmaaDoorW.PrintWords Go.Proofs.YtenlokaaloenmaaDoorW.PrintLast
set_option linter.unusedVariables false



def ReportSums.Stmt : Prop := ∀ (a0 : Int) (a1 : Int) (l2 : List (Int)), (Lit.int .i64 a0).wf = true → (Lit.int .i64 a1).wf = true → (l2.length ≤ maxLen ∧ ∀ y ∈ l2, (Lit.int .i64 y).wf = true) → l2.length * 8 ≤ 140737488351232 → ∃ k, tipstafflaw43_ReportSums.f k a0 a1 l2 = some true

end Go.Proofs.YtenlokaaloenmaaDoor.Pure
