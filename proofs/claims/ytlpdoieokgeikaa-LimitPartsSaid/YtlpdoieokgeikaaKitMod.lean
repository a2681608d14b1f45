/- What the statements' Mod comes to. -/
import Derived.Test.YtlpdoieokgeikaaS16
import Derived.Test.YtlpdoieokgeikaaNums
namespace Go.Proofs.Ytlpdoieokgeikaa.Pure
open Go.RowKit Go.Proofs.Ytlpdoieokgeikaa.S Go.Proofs.YtlpdoieokgeikaaW.PrintWords Go.Proofs.YtlpdoieokgeikaaW.PrintLast
set_option linter.unusedVariables false
set_option linter.unusedSimpArgs false

theorem mod_val (a b : Int) (ha : I64 a) (hb : 1 ≤ b) (hb' : b ≤ 4611686018427387904) : tipstaffkit_Mod.f a b = some (a % b) := by
  unfold tipstaffkit_Mod.f
  rw [if_neg (by omega), if_neg (by omega)]
  have h1 : a.tmod b = a % b ∨ a.tmod b = a % b - b := by
    rw [Int.tmod_eq_emod]; split <;> omega
  have h2 := Int.emod_nonneg a (show b ≠ 0 by omega)
  have h3 := Int.emod_lt_of_pos a (show 0 < b by omega)
  unfold I64 at ha
  split
  · rename_i h4
    rw [wrap_id _ (by omega) (by omega)]
    congr 1; omega
  · rename_i h4
    congr 1; omega

end Go.Proofs.Ytlpdoieokgeikaa.Pure
