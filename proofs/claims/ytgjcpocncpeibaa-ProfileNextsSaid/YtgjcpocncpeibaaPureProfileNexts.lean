/- Triangular numbers and next speeds are the specification's: for all numbers. -/
import Derived.Test.YtgjcpocncpeibaaS8
import Derived.Test.YtgjcpocncpeibaaRefs
namespace Go.Proofs.Ytgjcpocncpeibaa.Pure
open Go.RowKit Go.Proofs.Ytgjcpocncpeibaa.S Go.Proofs.YtgjcpocncpeibaaW.PrintWords Go.Proofs.YtgjcpocncpeibaaW.PrintLast
set_option linter.unusedVariables false
set_option linter.unusedSimpArgs false

theorem ProfileNexts : tipstafflaw08_ProfileNexts.Pure := by
  intro a0 a1 a2 w0 w1 w2
  obtain ⟨K, hK⟩ : ∃ K : Nat, K = 1000 := ⟨_, rfl⟩
  refine ⟨K + 1 + 1, ?_⟩
  have h1 : ∃ p, profile_Tri.f a0 = some p ∧ tipstaffref08_Tri.f a0 = some p := by
    unfold profile_Tri.f tipstaffref08_Tri.f profile_tri.f tipstaffref08_tri.f
    by_cases c1 : a0 < 0
    · rw [if_pos c1]; exact ⟨_, rfl, rfl⟩
    · rw [if_neg c1]
      by_cases c2 : a0 > 20
      · rw [if_pos c2]; exact ⟨_, rfl, rfl⟩
      · rw [if_neg c2, Option.bind_some]; exact ⟨_, rfl, rfl⟩
  have h2 : ∃ p, profile_Next.f (K + 1 + 1) a0 a1 a2 = some p ∧ tipstaffref08_Next.f (K + 1 + 1) a0 a1 a2 = some p := by
    unfold profile_Next.f tipstaffref08_Next.f
    rw [limits_val, asks_val, Option.bind_some, Option.bind_some]
    by_cases c1 : 0 ≤ a1 ∧ a1 ≤ 63000 ∧ 1 ≤ a2 ∧ a2 ≤ 20
    · rw [decide_eq_true c1, if_pos rfl, if_pos c1, if_pos rfl]
      by_cases c2 : a0 < 0
      · rw [if_pos c2, if_pos c2, profile_Next.j0, if_pos rfl, tipstaffref08_Next.j0, if_pos rfl, tipstaffref08_Next.j1, if_neg (by decide)]
        exact ⟨_, rfl, rfl⟩
      · rw [if_neg c2, if_neg c2]
        by_cases c3 : a0 > a2
        · rw [decide_eq_true c3, profile_Next.j0, if_pos rfl, tipstaffref08_Next.j0, if_pos rfl, tipstaffref08_Next.j1, if_neg (by decide)]
          exact ⟨_, rfl, rfl⟩
        · rw [decide_eq_false c3, profile_Next.j0, if_neg (by decide), tipstaffref08_Next.j0, if_neg (by decide), tipstaffref08_Next.j1, if_pos rfl]
          obtain ⟨s, rfl⟩ := Int.eq_ofNat_of_zero_le (show 0 ≤ a0 by omega)
          rw [next_ref s a1 a2 (by omega) K (by omega), Option.bind_some]
          unfold profile_next.f
          rw [Option.bind_some]
          by_cases c4 : (profile_next.v (s : Int) a1 a2).2 = true
          · have := next_pos _ _ _ c4
            rw [if_pos c4, if_pos c4, if_neg (by omega)]
            exact ⟨_, rfl, rfl⟩
          · rw [if_neg c4, if_neg c4, if_pos (by decide)]
            exact ⟨_, rfl, rfl⟩
    · rw [decide_eq_false c1, if_neg (by decide), if_neg c1, if_neg (by decide), profile_Next.j0, if_pos rfl, tipstaffref08_Next.j0, if_neg (by decide), tipstaffref08_Next.j1, if_neg (by decide)]
      exact ⟨_, rfl, rfl⟩
  obtain ⟨p, e1, e2⟩ := h1
  obtain ⟨q, e3, e4⟩ := h2
  unfold tipstafflaw08_ProfileNexts.f
  rw [e1, Option.bind_some, e2, Option.bind_some, e3, Option.bind_some, e4, Option.bind_some, if_pos rfl, if_pos rfl, if_pos rfl, if_pos rfl, awake_val _ (by omega)]; rfl

end Go.Proofs.Ytgjcpocncpeibaa.Pure
