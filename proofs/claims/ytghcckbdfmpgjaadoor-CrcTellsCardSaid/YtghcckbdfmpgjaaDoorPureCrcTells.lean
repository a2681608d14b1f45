/- The statement of CrcTells is what the walk shows. -/
import Derived.Test.YtghcckbdfmpgjaaDoorAskCrcTells
import Derived.Test.YtghcckbdfmpgjaaDoorNums
namespace Go.Proofs.YtghcckbdfmpgjaaDoor.Pure
open Go.RowKit Go.Proofs.YtghcckbdfmpgjaaDoor.S Go.Proofs.YtghcckbdfmpgjaaDoorW.PrintWords Go.Proofs.YtghcckbdfmpgjaaDoorW.PrintLast
set_option linter.unusedVariables false
set_option linter.unusedSimpArgs false

theorem CrcTells : CrcTells.Stmt := by
  intro a0 a1 a2 h0 h1 h2
  unfold tipstafflaw04_CrcTells.f
  rw [if_pos ⟨h0, i64_of h1, i64_of h2⟩]

end Go.Proofs.YtghcckbdfmpgjaaDoor.Pure
