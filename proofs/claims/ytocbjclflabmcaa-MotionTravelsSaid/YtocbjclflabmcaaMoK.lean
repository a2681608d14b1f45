/- The chapter's examples, from some round on. -/
import Derived.Test.YtocbjclflabmcaaS15
import Derived.Test.YtocbjclflabmcaaMo
namespace Go.Proofs.Ytocbjclflabmcaa.Pure
open Go.RowKit Go.Proofs.Ytocbjclflabmcaa.S Go.Proofs.YtocbjclflabmcaaW.PrintWords Go.Proofs.YtocbjclflabmcaaW.PrintLast
set_option linter.unusedVariables false
set_option linter.unusedSimpArgs false

theorem known_ev : ∃ K, ∀ k, K ≤ k → tipstafflaw09_MotionKnown.f k = some true := by
  have h : tipstafflaw09_MotionKnown.f 30 = some true := by decide +kernel
  obtain ⟨K, hK⟩ := Ev.mono_at (g := fun k => tipstafflaw09_MotionKnown.f k) 30 h (fun k => tipstafflaw09_MotionKnown.mono k)
  exact ⟨K, hK⟩

end Go.Proofs.Ytocbjclflabmcaa.Pure
