/- The pure statement of ReportKnown. -/
import Derived.Test.YtenlokaaloenmaaDoorHknown
import Derived.Test.YtenlokaaloenmaaDoorOpens
namespace Go.Proofs.YtenlokaaloenmaaDoor.Pure
open Go.RowKit Go.Proofs.YtenlokaaloenmaaDoor.S Go.Proofs.YtenlokaaloenmaaDoorW.PrintWords Go.Proofs.YtenlokaaloenmaaDoorW.PrintLast
set_option linter.unusedVariables false



def ReportKnown.Stmt : Prop := tipstafflaw43_ReportKnown.f  = some true

end Go.Proofs.YtenlokaaloenmaaDoor.Pure
