/- Valid motions, starts, ticks, runs, what is left and where one can stop: the specification's, for all motions and numbers. -/
import Derived.Test.YtocbjclflabmcaaAskMotionSteps
import Derived.Test.YtocbjclflabmcaaMo5
namespace Go.Proofs.Ytocbjclflabmcaa.Pure
open Go.RowKit Go.Proofs.Ytocbjclflabmcaa.S Go.Proofs.YtocbjclflabmcaaW.PrintWords Go.Proofs.YtocbjclflabmcaaW.PrintLast
set_option linter.unusedVariables false
set_option linter.unusedSimpArgs false

theorem awake_val : ∀ k, 30 ≤ k → tipstafflaw09_awake.f k = some true := fun _ hk => at_rounds tipstafflaw09_awake.mono hk (by decide +kernel)

theorem MotionSteps : MotionSteps.Stmt := by
  intro p g s m n x _ _ _ _ _ _
  obtain ⟨K, hK⟩ : ∃ K : Nat, K = 100020 := ⟨_, rfl⟩
  refine ⟨K + 1 + 1 + 1, ?_⟩
  unfold tipstafflaw09_MotionSteps.f
  obtain ⟨v1, s1, s2⟩ := step_both p g s m
  obtain ⟨v2, r1, r2⟩ := run_both p g s m n
  obtain ⟨v3, l1⟩ := left_both p g s m
  obtain ⟨v4, n1, n2, _⟩ := nearest_both p g s m
  rw [start_val, Option.bind_some, rstart_val, Option.bind_some, beq_self_eq_true, beq_self_eq_true, beq_self_eq_true, beq_self_eq_true, if_neg (by decide), if_pos rfl, check_val, Option.bind_some, rcheck_at _ _ _ _ _ (by omega), Option.bind_some]
  rw [tipstafflaw09_MotionSteps.j0, if_neg (by simp), s1, Option.bind_some, s2 _ (by omega), Option.bind_some, beq_self_eq_true, beq_self_eq_true, beq_self_eq_true, beq_self_eq_true, if_neg (by decide)]
  rw [tipstafflaw09_MotionSteps.j1, if_neg (by simp), r1, Option.bind_some, r2 _ (by omega), Option.bind_some, beq_self_eq_true, beq_self_eq_true, beq_self_eq_true, beq_self_eq_true, if_neg (by decide)]
  rw [tipstafflaw09_MotionSteps.j2, if_neg (by simp), (l1 _ (by omega)).1, Option.bind_some, (l1 _ (by omega)).2, Option.bind_some, n1, Option.bind_some, n2 _ (by omega), Option.bind_some, if_pos rfl, if_pos rfl, if_pos rfl, if_pos rfl, awake_val _ (by omega)]
  rfl

end Go.Proofs.Ytocbjclflabmcaa.Pure
