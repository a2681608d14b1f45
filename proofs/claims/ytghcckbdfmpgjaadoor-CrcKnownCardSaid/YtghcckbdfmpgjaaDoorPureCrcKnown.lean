/- The chapter's examples. -/
import Derived.Test.YtghcckbdfmpgjaaDoorCrcMath
import Derived.Test.YtghcckbdfmpgjaaDoorS10
namespace Go.Proofs.YtghcckbdfmpgjaaDoor.Pure
open Go.RowKit Go.Proofs.YtghcckbdfmpgjaaDoor.S Go.Proofs.YtghcckbdfmpgjaaDoorW.PrintWords Go.Proofs.YtghcckbdfmpgjaaDoorW.PrintLast
set_option linter.unusedVariables false
set_option linter.unusedSimpArgs false

set_option maxRecDepth 100000 in
theorem CrcKnown : tipstafflaw04_CrcKnown.Pure := ⟨300, by decide +kernel⟩

end Go.Proofs.YtghcckbdfmpgjaaDoor.Pure
