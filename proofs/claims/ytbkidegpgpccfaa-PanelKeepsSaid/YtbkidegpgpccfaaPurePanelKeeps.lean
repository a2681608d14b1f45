/- Every order and tick leaves a valid panel: for all numbers. -/
import Derived.Test.YtbkidegpgpccfaaS22
import Derived.Test.YtbkidegpgpccfaaMade
import Derived.Test.YtbkidegpgpccfaaPanL
namespace Go.Proofs.Ytbkidegpgpccfaa.Pure
open Go.RowKit Go.Proofs.Ytbkidegpgpccfaa.S Go.Proofs.YtbkidegpgpccfaaW.PrintWords Go.Proofs.YtbkidegpgpccfaaW.PrintLast
set_option linter.unusedVariables false
set_option linter.unusedSimpArgs false

theorem mw_if (a w v : Int) : mw a w v = if v > 0 ∧ a + v = w ∨ v < 0 ∧ a + v = 0 then 0 else v := by
  unfold mw
  by_cases h : Ends (a + v) w v
  · rw [if_pos h]; exact (if_pos h).symm
  · rw [if_neg h]; exact (if_neg h).symm
theorem mb_if (a w v : Int) : mb a w v = if v > 0 ∧ a + v = w ∨ v < 0 ∧ a + v = 0 then v else 0 := by
  unfold mb
  by_cases h : Ends (a + v) w v
  · rw [if_pos h]; exact (if_pos h).symm
  · rw [if_neg h]; exact (if_neg h).symm

theorem keeps_end (K : Nat) (a w t : Int) (h : Valid a w t) : tipstafflaw16_PanelKeeps.j0 (K + 1) true (leftN a w t : Int) (mb a w t) (leftN (a + t) w (mw a w t) : Int) false a w t (a + t) w (mw a w t) = some true := by
  have hb := h.1
  have he := h.2
  unfold Bnd at hb
  unfold Ends at he
  have e1 : mx t (-t) ≤ 1 := by unfold mx; split <;> omega
  have hz := left_zero h
  have hs := left_step h
  have hm := moved_valid h
  have hz2 := left_zero hm
  have e3 : (leftN (a + t) w (mw a w t) : Int) = mx 0 ((leftN a w t : Int) - 1) := by
    by_cases h0 : t = 0
    · have h1 := hz.2 h0
      have hmw : mw a w t = 0 := by subst h0; unfold mw; split <;> rfl
      have h2 := hz2.2 hmw
      rw [h1, h2]; rfl
    · have := hs h0
      unfold mx
      split <;> omega
  have hlb := left_bnd hb
  rw [tipstafflaw16_PanelKeeps.j0, if_neg (by decide)]
  unfold tipstafflaw16_far.f
  rw [wrap_id (a + t - a) (by omega) (by omega), wrap_id (a - (a + t)) (by omega) (by omega), show a + t - a = t by omega, show a - (a + t) = -t by omega, Option.bind_some, if_neg (by omega), if_neg (by omega), if_neg (by omega)]
  have e2 : (((leftN a w t : Int) == 0) != (t == 0)) = false := by
    by_cases h0 : t = 0
    · have h3 : (t == 0) = true := by rw [h0]; rfl
      have h4 : ((leftN a w t : Int) == 0) = true := by rw [hz.2 h0]; rfl
      rw [h3, h4]; rfl
    · have h3 : (t == 0) = false := beq_eq_false_iff_ne.mpr h0
      have h4 : ((leftN a w t : Int) == 0) = false := beq_eq_false_iff_ne.mpr (fun e => h0 (hz.1 (by omega)))
      rw [h3, h4]; rfl
  rw [e2, if_neg (by decide), wrap_id ((leftN a w t : Int) - 1) (by omega) (by omega), if_pos e3, if_pos rfl]
  rcases (show t = -1 ∨ t = 0 ∨ t = 1 by omega) with rfl | rfl | rfl
  · have hmb : mb a w (-1) = if a + -1 = 0 then -1 else 0 := by rw [mb_if]; (repeat' split) <;> omega
    rw [if_neg (by decide), hmb]
    by_cases h1 : a + -1 = 0
    · rw [if_pos h1, h1]; rfl
    · have h2 : (a + -1 == 0) = false := beq_eq_false_iff_ne.mpr h1
      rw [if_neg h1, h2]; rfl
  · have hmb : mb a w 0 = 0 := by rw [mb_if]; split <;> rfl
    rw [if_neg (by decide), hmb]; rfl
  · have hmb : mb a w 1 = if a + 1 = w then 1 else 0 := by rw [mb_if]; (repeat' split) <;> omega
    rw [if_pos rfl, hmb]
    by_cases h1 : a + 1 = w
    · have h2 : (a + 1 == w) = true := beq_iff_eq.mpr h1
      rw [if_pos h1, h2]; rfl
    · have h2 : (a + 1 == w) = false := beq_eq_false_iff_ne.mpr h1
      rw [if_neg h1, h2]; rfl

theorem PanelKeeps : tipstafflaw16_PanelKeeps.Pure := by
  intro x l y wx _ _ hl wy
  obtain ⟨K, hK⟩ : ∃ K : Nat, K = 200 := ⟨_, rfl⟩
  refine ⟨K + 1, ?_⟩
  obtain ⟨a, w, v, e1, hv⟩ := made_val (K + 1) (by omega) x (i64_of wx) l hl
  obtain ⟨o, ho, ho'⟩ := mod_nat y 5 (by omega)
  have ht := tw_valid hv.1 (o : Int)
  have hm := moved_valid ht
  have oo : panel_Order.f (K + 1) a w v (o : Int) = some (a, w, tw a w v o, 0) := by rw [order_val _ (by omega), if_pos (chk_ok hv), if_pos (by omega)]
  have ss : panel_Step.f (K + 1) a w (tw a w v o) = some (a + tw a w v o, w, mw a w (tw a w v o), mb a w (tw a w v o), 0) := by rw [step_val _ (by omega), if_pos (chk_ok ht)]
  have l1 : panel_Left.f (K + 1) a w (tw a w v o) = some ((leftN a w (tw a w v o) : Int), 0) := by rw [left_val _ (by omega), if_pos (chk_ok ht)]
  have l2 : panel_Left.f (K + 1) (a + tw a w v o) w (mw a w (tw a w v o)) = some ((leftN (a + tw a w v o) w (mw a w (tw a w v o)) : Int), 0) := by rw [left_val _ (by omega), if_pos (chk_ok hm)]
  have c1 : panel_Check.f (K + 1) a w (tw a w v o) = some 0 := by rw [check_val _ (by omega), chk_ok ht]
  have c2 : panel_Check.f (K + 1) (a + tw a w v o) w (mw a w (tw a w v o)) = some 0 := by rw [check_val _ (by omega), chk_ok hm]
  unfold tipstafflaw16_PanelKeeps.f
  rw [known_val _ (by omega), Option.bind_some, e1, Option.bind_some, mod_val y 5 (i64_of wy) (by omega) (by omega), show y % 5 = (o : Int) from ho, Option.bind_some, oo, Option.bind_some, l1, Option.bind_some, ss, Option.bind_some, l2, Option.bind_some, if_pos rfl, if_pos rfl, if_pos rfl, if_pos rfl, if_pos rfl, c1, Option.bind_some, if_pos rfl, c2, Option.bind_some, if_pos rfl, bne_self_eq_false]
  exact keeps_end K a w (tw a w v o) ht

end Go.Proofs.Ytbkidegpgpccfaa.Pure
