/- Steps, and how long a panel moves: the program's. -/
import Derived.Test.YtbkidegpgpccfaaS7
import Derived.Test.YtbkidegpgpccfaaS17
import Derived.Test.YtbkidegpgpccfaaPanP
namespace Go.Proofs.Ytbkidegpgpccfaa.Pure
open Go.RowKit Go.Proofs.Ytbkidegpgpccfaa.S Go.Proofs.YtbkidegpgpccfaaW.PrintWords Go.Proofs.YtbkidegpgpccfaaW.PrintLast
set_option linter.unusedVariables false
set_option linter.unusedSimpArgs false

theorem step_val (k : Nat) (hk : 5 < k) (a w v : Int) : panel_Step.f k a w v = some (if chk a w v = 0 then (a + v, w, mw a w v, mb a w v, 0) else (0, 0, 0, 0, chk a w v)) := by
  unfold panel_Step.f
  rw [check_val k (by omega), Option.bind_some]
  by_cases h : chk a w v = 0
  · rw [if_pos h, if_pos h, moved_val (chk_zero h).1, Option.bind_some, h]
  · rw [if_neg h, if_neg h]
/-- How many ticks a panel moves. -/
def leftN (a w v : Int) : Nat := if v = 1 then (w - a).toNat else if v = -1 then a.toNat else 0
theorem left_bnd {a w v : Int} (h : Bnd a w v) : leftN a w v ≤ 20 := by
  unfold Bnd at h
  unfold leftN
  (repeat' split) <;> omega
theorem left_zero {a w v : Int} (h : Valid a w v) : leftN a w v = 0 ↔ v = 0 := by
  obtain ⟨h, he⟩ := h
  unfold Bnd at h
  unfold Ends at he
  unfold leftN
  (repeat' split) <;> omega
theorem left_step {a w v : Int} (h : Valid a w v) (hv : v ≠ 0) : leftN a w v = leftN (a + v) w (mw a w v) + 1 := by
  obtain ⟨h, he⟩ := h
  unfold Bnd at h
  unfold Ends at he
  have hm : mw a w v = if v > 0 ∧ a + v = w ∨ v < 0 ∧ a + v = 0 then 0 else v := by
    unfold mw
    by_cases h : Ends (a + v) w v
    · rw [if_pos h]; exact (if_pos h).symm
    · rw [if_neg h]; exact (if_neg h).symm
  rw [hm]
  unfold leftN
  (repeat' split) <;> omega
theorem left_val (k : Nat) (hk : 5 < k) (a w v : Int) : panel_Left.f k a w v = some (if chk a w v = 0 then ((leftN a w v : Int), 0) else (0, chk a w v)) := by
  unfold panel_Left.f
  rw [check_val k (by omega), Option.bind_some]
  by_cases h : chk a w v = 0
  · have hv := (chk_zero h).1
    unfold Bnd at hv
    rw [if_pos h, if_pos h]
    unfold leftN
    by_cases h1 : v = 1
    · rw [if_pos h1, if_pos h1, wrap_id _ (by omega) (by omega), show (((w - a).toNat : Nat) : Int) = w - a by omega]
    · rw [if_neg h1, if_neg h1]
      by_cases h2 : v = -1
      · rw [if_pos h2, if_pos h2, show ((a.toNat : Nat) : Int) = a by omega]
      · rw [if_neg h2, if_neg h2]; rfl
  · rw [if_neg h, if_neg h]
end Go.Proofs.Ytbkidegpgpccfaa.Pure
