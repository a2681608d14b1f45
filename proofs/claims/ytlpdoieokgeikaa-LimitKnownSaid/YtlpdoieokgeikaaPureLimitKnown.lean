/- The chapter's examples. -/
import Derived.Test.YtlpdoieokgeikaaS15
namespace Go.Proofs.Ytlpdoieokgeikaa.Pure
open Go.RowKit Go.Proofs.Ytlpdoieokgeikaa.S Go.Proofs.YtlpdoieokgeikaaW.PrintWords Go.Proofs.YtlpdoieokgeikaaW.PrintLast
set_option linter.unusedVariables false
set_option linter.unusedSimpArgs false

theorem LimitKnown : tipstafflaw14_LimitKnown.Pure := ⟨100, by decide +kernel⟩

end Go.Proofs.Ytlpdoieokgeikaa.Pure
