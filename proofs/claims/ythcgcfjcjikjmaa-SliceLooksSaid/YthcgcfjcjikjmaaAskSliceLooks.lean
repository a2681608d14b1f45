/- The pure statement of SliceLooks. -/
import Derived.Test.YthcgcfjcjikjmaaS8
import Derived.Test.YthcgcfjcjikjmaaOpens
namespace Go.Proofs.Ythcgcfjcjikjmaa.Pure
open Go.RowKit Go.Proofs.Ythcgcfjcjikjmaa.S Go.Proofs.YthcgcfjcjikjmaaW.PrintWords Go.Proofs.YthcgcfjcjikjmaaW.PrintLast
set_option linter.unusedVariables false



def SliceLooks.Stmt : Prop := ∀ (l0 : List (List (Int))) (a1 : Int) (a2 : Int) (a3 : Int), (l0.length ≤ maxLen ∧ ∀ y ∈ l0, (y.length ≤ maxLen ∧ ∀ y' ∈ y, (Lit.int .i64 y').wf = true)) → (Lit.int .i64 a1).wf = true → (Lit.int .i64 a2).wf = true → (Lit.int .i64 a3).wf = true → ∃ k, tipstafflaw25_SliceLooks.f k l0 a1 a2 a3 = some true

end Go.Proofs.Ythcgcfjcjikjmaa.Pure
