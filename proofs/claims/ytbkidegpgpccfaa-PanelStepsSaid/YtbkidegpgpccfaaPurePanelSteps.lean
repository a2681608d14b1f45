/- Panels after an order, a tick, some ticks, and how long they move: the specification's, for all panels and numbers. -/
import Derived.Test.YtbkidegpgpccfaaAskPanelSteps
import Derived.Test.YtbkidegpgpccfaaPan
namespace Go.Proofs.Ytbkidegpgpccfaa.Pure
open Go.RowKit Go.Proofs.Ytbkidegpgpccfaa.S Go.Proofs.YtbkidegpgpccfaaW.PrintWords Go.Proofs.YtbkidegpgpccfaaW.PrintLast
set_option linter.unusedVariables false
set_option linter.unusedSimpArgs false

theorem awake_val : ∀ k, 100 ≤ k → tipstafflaw16_awake.f k = some true := fun _ hk => at_rounds tipstafflaw16_awake.mono hk (by decide +kernel)

theorem new_ref (a : Int) : tipstaffref16_New.f a = panel_New.f a := rfl
theorem new_ex (a : Int) : ∃ p, panel_New.f a = some p := by
  unfold panel_New.f
  (repeat' split) <;> exact ⟨_, rfl⟩

theorem PanelSteps : PanelSteps.Stmt := by
  intro a w v x t _ _ _ _ _
  obtain ⟨K, hK⟩ : ∃ K : Nat, K = 1100 := ⟨_, rfl⟩
  refine ⟨K + 1 + 1 + 1, ?_⟩
  unfold tipstafflaw16_PanelSteps.f
  obtain ⟨p, hp⟩ := new_ex x
  rw [new_ref, hp, Option.bind_some, Option.bind_some, beq_self_eq_true, beq_self_eq_true, beq_self_eq_true, if_neg (by decide), if_pos rfl, check_val _ (by omega), Option.bind_some, check_ref _ (by omega), Option.bind_some, bne_self_eq_false]
  rw [tipstafflaw16_PanelSteps.j0, if_neg (by decide), order_val _ (by omega), Option.bind_some, order_ref _ (by omega), Option.bind_some, beq_self_eq_true, beq_self_eq_true, beq_self_eq_true, if_neg (by decide), bne_self_eq_false]
  rw [tipstafflaw16_PanelSteps.j1, if_neg (by decide), step_val _ (by omega), Option.bind_some, step_ref _ (by omega), Option.bind_some, beq_self_eq_true, beq_self_eq_true, beq_self_eq_true, if_neg (by decide), if_pos rfl, bne_self_eq_false]
  rw [tipstafflaw16_PanelSteps.j2, if_neg (by decide), run_val _ (by omega), Option.bind_some, run_ref _ (by omega), Option.bind_some, left_val _ (by omega), Option.bind_some, left_ref _ (by omega), Option.bind_some, beq_self_eq_true, beq_self_eq_true, beq_self_eq_true, if_pos (by decide), if_pos rfl, if_pos rfl, if_pos rfl, awake_val K (by omega)]; rfl

end Go.Proofs.Ytbkidegpgpccfaa.Pure
