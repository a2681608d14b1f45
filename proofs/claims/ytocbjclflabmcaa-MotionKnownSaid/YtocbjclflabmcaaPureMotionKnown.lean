/- The chapter's examples have the results given there: no argument. -/
import Derived.Test.YtocbjclflabmcaaS15
import Derived.Test.YtocbjclflabmcaaEv
namespace Go.Proofs.Ytocbjclflabmcaa.Pure
open Go.RowKit Go.Proofs.Ytocbjclflabmcaa.S Go.Proofs.YtocbjclflabmcaaW.PrintWords Go.Proofs.YtocbjclflabmcaaW.PrintLast
set_option linter.unusedVariables false
set_option linter.unusedSimpArgs false

theorem MotionKnown : tipstafflaw09_MotionKnown.Pure := ⟨30, by decide +kernel⟩

end Go.Proofs.Ytocbjclflabmcaa.Pure
