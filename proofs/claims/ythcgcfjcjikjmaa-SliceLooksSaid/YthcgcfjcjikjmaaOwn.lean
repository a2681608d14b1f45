/- A list in new memory is the list. -/
import Derived.Test.YthcgcfjcjikjmaaS5
import Derived.Test.YthcgcfjcjikjmaaNums
namespace Go.Proofs.Ythcgcfjcjikjmaa.Pure
open Go.RowKit Go.Proofs.Ythcgcfjcjikjmaa.S Go.Proofs.YthcgcfjcjikjmaaW.PrintWords Go.Proofs.YthcgcfjcjikjmaaW.PrintLast
set_option linter.unusedVariables false
set_option linter.unusedSimpArgs false

theorem own_val (l : List Int) (h : l.length < 17592186044416) : tipstaffkit_OwnInts.f l = some l := by
  unfold tipstaffkit_OwnInts.f
  simp [h]

end Go.Proofs.Ythcgcfjcjikjmaa.Pure
