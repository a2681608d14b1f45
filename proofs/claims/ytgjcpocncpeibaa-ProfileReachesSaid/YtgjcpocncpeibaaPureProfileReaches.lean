/- How far a car gets in some ticks is the specification's: for all numbers. -/
import Derived.Test.YtgjcpocncpeibaaS15
import Derived.Test.YtgjcpocncpeibaaRefs
namespace Go.Proofs.Ytgjcpocncpeibaa.Pure
open Go.RowKit Go.Proofs.Ytgjcpocncpeibaa.S Go.Proofs.YtgjcpocncpeibaaW.PrintWords Go.Proofs.YtgjcpocncpeibaaW.PrintLast
set_option linter.unusedVariables false
set_option linter.unusedSimpArgs false

theorem ProfileReaches : tipstafflaw08_ProfileReaches.Pure := by
  intro a0 a1 w0 w1
  obtain ⟨K, hK⟩ : ∃ K : Nat, K = 200000 := ⟨_, rfl⟩
  refine ⟨K + 1 + 1, ?_⟩
  have h1 : ∃ p, profile_Reach.f (K + 1 + 1) a0 a1 = some p ∧ tipstaffref08_Reach.f (K + 1 + 1) a0 a1 = some p := by
    by_cases c1 : 1 ≤ a1 ∧ a1 ≤ 20
    · by_cases c2 : 0 ≤ a0 ∧ a0 ≤ 63000
      · obtain ⟨t, rfl⟩ := Int.eq_ofNat_of_zero_le c2.1
        obtain ⟨L, rfl⟩ := Int.eq_ofNat_of_zero_le (show 0 ≤ a1 by omega)
        rw [reach_val t L _ (by omega) (by omega) (by omega) (by omega)]
        unfold tipstaffref08_Reach.f
        rw [asks_val, if_pos (by omega), Option.bind_some, if_pos rfl, if_neg (by omega), decide_eq_false (by omega), tipstaffref08_Reach.j0, if_neg (by decide), tipstaffref08_Reach.j1, if_pos rfl]
        have := reach_ref_loop t L (by omega) (by omega) 63000 K 0 63000 rfl (by omega) (by omega) (by omega) (.inr rfl) (by omega)
        rw [show ((0 : Nat) : Int) = 0 from rfl] at this
        rw [show ((63000 : Nat) : Int) = 63000 from rfl] at this
        rw [this]
        have e : far t L = ((min (D L 0 t) 63000 : Nat) : Int) := by unfold far; split <;> omega
        rw [e]
        exact ⟨_, rfl, rfl⟩
      · unfold profile_Reach.f tipstaffref08_Reach.f
        rw [limits_val, decide_eq_false (by omega), Option.bind_some, if_neg (by decide), asks_val, if_pos (by omega), Option.bind_some, if_pos rfl]
        by_cases c3 : a0 < 0
        · rw [if_pos c3, tipstaffref08_Reach.j0, if_pos rfl, tipstaffref08_Reach.j1, if_neg (by decide)]
          exact ⟨_, rfl, rfl⟩
        · rw [if_neg c3, decide_eq_true (by omega), tipstaffref08_Reach.j0, if_pos rfl, tipstaffref08_Reach.j1, if_neg (by decide)]
          exact ⟨_, rfl, rfl⟩
    · unfold profile_Reach.f tipstaffref08_Reach.f
      rw [limits_val, decide_eq_false (by omega), Option.bind_some, if_neg (by decide), asks_val, if_neg (by omega), Option.bind_some, if_neg (by decide), tipstaffref08_Reach.j0, if_neg (by decide), tipstaffref08_Reach.j1, if_neg (by decide)]
      exact ⟨_, rfl, rfl⟩
  obtain ⟨p, e1, e2⟩ := h1
  unfold tipstafflaw08_ProfileReaches.f
  rw [e1, Option.bind_some, e2, Option.bind_some, if_pos rfl, if_pos rfl, awake_val _ (by omega)]; rfl

end Go.Proofs.Ytgjcpocncpeibaa.Pure
