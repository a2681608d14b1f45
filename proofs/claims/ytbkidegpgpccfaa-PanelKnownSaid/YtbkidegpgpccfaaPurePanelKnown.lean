/- The chapter's examples. -/
import Derived.Test.YtbkidegpgpccfaaS18
namespace Go.Proofs.Ytbkidegpgpccfaa.Pure
open Go.RowKit Go.Proofs.Ytbkidegpgpccfaa.S Go.Proofs.YtbkidegpgpccfaaW.PrintWords Go.Proofs.YtbkidegpgpccfaaW.PrintLast
set_option linter.unusedVariables false
set_option linter.unusedSimpArgs false

theorem PanelKnown : tipstafflaw16_PanelKnown.Pure := ⟨100, by decide +kernel⟩

end Go.Proofs.Ytbkidegpgpccfaa.Pure
