/- The pure statement of CrcTells. -/
import Derived.Test.YtghcckbdfmpgjaaDoorHtells
import Derived.Test.YtghcckbdfmpgjaaDoorOpens
namespace Go.Proofs.YtghcckbdfmpgjaaDoor.Pure
open Go.RowKit Go.Proofs.YtghcckbdfmpgjaaDoor.S Go.Proofs.YtghcckbdfmpgjaaDoorW.PrintWords Go.Proofs.YtghcckbdfmpgjaaDoorW.PrintLast
set_option linter.unusedVariables false



def CrcTells.Stmt : Prop := ∀ (a0 : ByteArray) (a1 : Int) (a2 : Int), a0.size ≤ 140737488351232 → (Lit.int .i64 a1).wf = true → (Lit.int .i64 a2).wf = true → tipstafflaw04_CrcTells.f a0 a1 a2 = some true

end Go.Proofs.YtghcckbdfmpgjaaDoor.Pure
