/- The chapter's examples in every statement. -/
import Derived.Test.YtlfeiadmkoocgaaS8
import Derived.Test.YtlfeiadmkoocgaaNums
namespace Go.Proofs.Ytlfeiadmkoocgaa.Pure
open Go.RowKit Go.Proofs.Ytlfeiadmkoocgaa.S Go.Proofs.YtlfeiadmkoocgaaW.PrintWords Go.Proofs.YtlfeiadmkoocgaaW.PrintLast
set_option linter.unusedVariables false
set_option linter.unusedSimpArgs false

theorem awake_twenty : tipstafflaw26_awake.f 60 = some true := by decide +kernel
theorem awake_more : ∀ d : Nat, tipstafflaw26_awake.f (60 + d) = some true
  | 0 => awake_twenty
  | d + 1 => tipstafflaw26_awake.mono _ _ (awake_more d)
theorem awake_at (k : Nat) (h : 60 ≤ k) : tipstafflaw26_awake.f k = some true := by
  have := awake_more (k - 60)
  rwa [show 60 + (k - 60) = k by omega] at this

end Go.Proofs.Ytlfeiadmkoocgaa.Pure
