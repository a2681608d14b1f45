/- The chapter's examples: the walk has reckoned each of them. -/
import Derived.Test.YtlfeiadmkoocgaaHknown
namespace Go.Proofs.Ytlfeiadmkoocgaa.Pure
open Go.RowKit Go.Proofs.Ytlfeiadmkoocgaa.S Go.Proofs.YtlfeiadmkoocgaaW.PrintWords Go.Proofs.YtlfeiadmkoocgaaW.PrintLast
set_option linter.unusedVariables false
set_option linter.unusedSimpArgs false

theorem PhaseKnown : tipstafflaw26_PhaseKnown.Pure := ⟨0, rfl⟩

end Go.Proofs.Ytlfeiadmkoocgaa.Pure
