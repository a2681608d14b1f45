/- A list in new memory is the list. -/
import Derived.Test.YtifcjlehbmbacaaS16
import Derived.Test.YtifcjlehbmbacaaNums
namespace Go.Proofs.Ytifcjlehbmbacaa.Pure
open Go.RowKit Go.Proofs.Ytifcjlehbmbacaa.S Go.Proofs.YtifcjlehbmbacaaW.PrintWords Go.Proofs.YtifcjlehbmbacaaW.PrintLast
set_option linter.unusedVariables false
set_option linter.unusedSimpArgs false

theorem own_val (l : List Int) (h : l.length < 17592186044416) : tipstaffkit_OwnInts.f l = some l := by
  unfold tipstaffkit_OwnInts.f
  simp [h]

end Go.Proofs.Ytifcjlehbmbacaa.Pure
