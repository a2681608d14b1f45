/- The pure statement of ReportParts. -/
import Derived.Test.YtenlokaaloenmaaDoorM8
import Derived.Test.YtenlokaaloenmaaDoorOpens
namespace Go.Proofs.YtenlokaaloenmaaDoor.Pure
open Go.RowKit Go.Proofs.YtenlokaaloenmaaDoor.S Go.Proofs.YtenlokaaloenmaaDoorW.PrintWords Go.Proofs.YtenlokaaloenmaaDoorW.PrintLast
set_option linter.unusedVariables false



def ReportParts.Stmt : Prop := ∀ (a0 : Int) (a1 : Int) (l2 : List (Int)) (a3 : Int), (Lit.int .i64 a0).wf = true → (Lit.int .i64 a1).wf = true → (l2.length ≤ maxLen ∧ ∀ y ∈ l2, (Lit.int .i64 y).wf = true) → l2.length * 8 ≤ 140737488351232 → (Lit.int .i64 a3).wf = true → ∃ k, tipstafflaw43_ReportParts.f k a0 a1 l2 a3 = some true

end Go.Proofs.YtenlokaaloenmaaDoor.Pure
