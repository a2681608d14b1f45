/- The pure statement of LimitKnown. -/
import Derived.Test.YtlpdoieokgeikaaS15
import Derived.Test.YtlpdoieokgeikaaOpens
namespace Go.Proofs.Ytlpdoieokgeikaa.Pure
open Go.RowKit Go.Proofs.Ytlpdoieokgeikaa.S Go.Proofs.YtlpdoieokgeikaaW.PrintWords Go.Proofs.YtlpdoieokgeikaaW.PrintLast
set_option linter.unusedVariables false



def LimitKnown.Stmt : Prop := ∃ k, tipstafflaw14_LimitKnown.f k  = some true

end Go.Proofs.Ytlpdoieokgeikaa.Pure
