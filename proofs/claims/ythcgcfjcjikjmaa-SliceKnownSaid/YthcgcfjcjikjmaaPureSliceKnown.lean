/- The chapter's examples. -/
import Derived.Test.YthcgcfjcjikjmaaS21
namespace Go.Proofs.Ythcgcfjcjikjmaa.Pure
open Go.RowKit Go.Proofs.Ythcgcfjcjikjmaa.S Go.Proofs.YthcgcfjcjikjmaaW.PrintWords Go.Proofs.YthcgcfjcjikjmaaW.PrintLast
set_option linter.unusedVariables false
set_option linter.unusedSimpArgs false

theorem SliceKnown : tipstafflaw25_SliceKnown.Pure := ⟨100, by decide +kernel⟩

end Go.Proofs.Ythcgcfjcjikjmaa.Pure
