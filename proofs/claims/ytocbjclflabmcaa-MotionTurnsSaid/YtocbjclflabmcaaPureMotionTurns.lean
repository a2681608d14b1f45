/- The path of a motion, the motion that is stopped, and with another goal: the specification's, for all motions and numbers. -/
import Derived.Test.YtocbjclflabmcaaAskMotionTurns
import Derived.Test.YtocbjclflabmcaaMo5
import Derived.Test.YtocbjclflabmcaaMoS
namespace Go.Proofs.Ytocbjclflabmcaa.Pure
open Go.RowKit Go.Proofs.Ytocbjclflabmcaa.S Go.Proofs.YtocbjclflabmcaaW.PrintWords Go.Proofs.YtocbjclflabmcaaW.PrintLast
set_option linter.unusedVariables false
set_option linter.unusedSimpArgs false

theorem awake_val : ∀ k, 30 ≤ k → tipstafflaw09_awake.f k = some true := fun _ hk => at_rounds tipstafflaw09_awake.mono hk (by decide +kernel)

theorem MotionTurns : MotionTurns.Stmt := by
  intro p g s m n x _ _ _ _ _ _
  obtain ⟨K, hK⟩ : ∃ K : Nat, K = 63030 := ⟨_, rfl⟩
  refine ⟨K + 1 + 1, ?_⟩
  unfold tipstafflaw09_MotionTurns.f
  obtain ⟨v1, p1, p2⟩ := path_both p g s m n
  obtain ⟨v2, s1, s2⟩ := stop_both p g s m
  obtain ⟨v3, t1, t2⟩ := turn_both p g s m x
  rw [(p1 _ (by omega)).1, Option.bind_some, (p1 _ (by omega)).2, Option.bind_some, same_self v1.1 (by omega) (by omega), Option.bind_some, if_pos rfl]
  rw [tipstafflaw09_MotionTurns.j0, if_neg (by simp), s1, Option.bind_some, s2 _ (by omega), Option.bind_some, beq_self_eq_true, beq_self_eq_true, beq_self_eq_true, beq_self_eq_true, if_neg (by decide)]
  rw [tipstafflaw09_MotionTurns.j1, if_neg (by simp), t1, Option.bind_some, t2 _ (by omega), Option.bind_some, beq_self_eq_true, beq_self_eq_true, beq_self_eq_true, beq_self_eq_true, if_pos (by decide), if_pos rfl, awake_val _ (by omega)]
  rfl

end Go.Proofs.Ytocbjclflabmcaa.Pure
