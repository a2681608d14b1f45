/- The pure statement of LimitFirst. -/
import Derived.Test.YtlpdoieokgeikaaS17
import Derived.Test.YtlpdoieokgeikaaOpens
namespace Go.Proofs.Ytlpdoieokgeikaa.Pure
open Go.RowKit Go.Proofs.Ytlpdoieokgeikaa.S Go.Proofs.YtlpdoieokgeikaaW.PrintWords Go.Proofs.YtlpdoieokgeikaaW.PrintLast
set_option linter.unusedVariables false



def LimitFirst.Stmt : Prop := ∀ (l0 : List (Int)), (l0.length ≤ maxLen ∧ ∀ y ∈ l0, (Lit.int .i64 y).wf = true) → l0.length * 8 ≤ 140737488351232 → ∃ k, tipstafflaw14_LimitFirst.f k l0 = some true

end Go.Proofs.Ytlpdoieokgeikaa.Pure
