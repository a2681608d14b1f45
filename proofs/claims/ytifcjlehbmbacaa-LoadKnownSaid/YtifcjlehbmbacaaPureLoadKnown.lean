/- The chapter's examples on loads have the results given there. -/
import Derived.Test.YtifcjlehbmbacaaS25
namespace Go.Proofs.Ytifcjlehbmbacaa.Pure
open Go.RowKit Go.Proofs.Ytifcjlehbmbacaa.S Go.Proofs.YtifcjlehbmbacaaW.PrintWords Go.Proofs.YtifcjlehbmbacaaW.PrintLast
set_option linter.unusedVariables false
set_option linter.unusedSimpArgs false

theorem LoadKnown : tipstafflaw11_LoadKnown.Pure := ⟨100, by decide +kernel⟩

end Go.Proofs.Ytifcjlehbmbacaa.Pure
