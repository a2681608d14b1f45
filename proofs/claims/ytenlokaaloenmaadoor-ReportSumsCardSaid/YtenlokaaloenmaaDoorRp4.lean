/- How often a car opens at a floor: the program's answer. -/
import Derived.Test.YtenlokaaloenmaaDoorM4
import Derived.Test.YtenlokaaloenmaaDoorS5
namespace Go.Proofs.YtenlokaaloenmaaDoor.Pure
open Go.RowKit Go.Proofs.YtenlokaaloenmaaDoor.S Go.Proofs.YtenlokaaloenmaaDoorW.PrintWords Go.Proofs.YtenlokaaloenmaaDoorW.PrintLast
set_option linter.unusedVariables false
set_option linter.unusedSimpArgs false
set_option linter.unusedVariables false

def visBad (l : List S41) (c f w : Int) : Prop := l.length = 0 ∨ c < 1 ∨ c > ((rd_T41 l 0).f2.length : Int) ∨ f < 0 ∨ 63 < f ∨ w < 1 ∨ 20 < w
instance (l : List S41) (c f w : Int) : Decidable (visBad l c f w) := by unfold visBad; infer_instance
end Go.Proofs.YtenlokaaloenmaaDoor.Pure
