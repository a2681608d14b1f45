/- The chapter's examples hold. -/
import Derived.Test.YtenlokaaloenmaaDoorHknown
import Derived.Test.YtenlokaaloenmaaDoorAskReportKnown
namespace Go.Proofs.YtenlokaaloenmaaDoor.Pure
open Go.RowKit Go.Proofs.YtenlokaaloenmaaDoor.S Go.Proofs.YtenlokaaloenmaaDoorW.PrintWords Go.Proofs.YtenlokaaloenmaaDoorW.PrintLast
set_option linter.unusedVariables false
set_option linter.unusedSimpArgs false

theorem ReportKnown : ReportKnown.Stmt := rfl

end Go.Proofs.YtenlokaaloenmaaDoor.Pure
