/- The pure statement of LimitMore. -/
import Derived.Test.YtlpdoieokgeikaaS18
import Derived.Test.YtlpdoieokgeikaaOpens
namespace Go.Proofs.Ytlpdoieokgeikaa.Pure
open Go.RowKit Go.Proofs.Ytlpdoieokgeikaa.S Go.Proofs.YtlpdoieokgeikaaW.PrintWords Go.Proofs.YtlpdoieokgeikaaW.PrintLast
set_option linter.unusedVariables false



def LimitMore.Stmt : Prop := ∀ (l0 : List (Int)) (a1 : Int) (a2 : Int) (a3 : Int) (a4 : Int), (l0.length ≤ maxLen ∧ ∀ y ∈ l0, (Lit.int .i64 y).wf = true) → l0.length * 8 ≤ 140737488351232 → (Lit.int .i64 a1).wf = true → (Lit.int .i64 a2).wf = true → (Lit.int .i64 a3).wf = true → (Lit.int .i64 a4).wf = true → ∃ k, tipstafflaw14_LimitMore.f k l0 a1 a2 a3 a4 = some true

end Go.Proofs.Ytlpdoieokgeikaa.Pure
