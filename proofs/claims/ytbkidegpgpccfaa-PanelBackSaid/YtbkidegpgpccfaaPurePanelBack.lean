/- Turning twice leaves a panel as it was, or still at an end; ticks without orders open or close at most once. -/
import Derived.Test.YtbkidegpgpccfaaS15
import Derived.Test.YtbkidegpgpccfaaMade
import Derived.Test.YtbkidegpgpccfaaPanS
namespace Go.Proofs.Ytbkidegpgpccfaa.Pure
open Go.RowKit Go.Proofs.Ytbkidegpgpccfaa.S Go.Proofs.YtbkidegpgpccfaaW.PrintWords Go.Proofs.YtbkidegpgpccfaaW.PrintLast
set_option linter.unusedVariables false
set_option linter.unusedSimpArgs false

theorem okL_zeros : ∀ n, okL (List.replicate n 0) = true
  | 0 => rfl
  | n + 1 => by
    rw [List.replicate_succ]
    simp only [okL, List.all_cons, Bool.and_eq_true]
    exact ⟨by decide, okL_zeros n⟩
theorem tw_zero {a w v : Int} (h : Valid a w v) : tw a w v 0 = v := by
  unfold tw
  rw [show turned 0 v = v from rfl, if_neg h.2]
theorem still (n : Nat) : ∀ a w : Int, Valid a w 0 → ∀ u : Int, (swL (List.replicate n 0) a w 0).foldl upF u = u ∧ (swL (List.replicate n 0) a w 0).foldl downF u = u := by
  induction n with
  | zero => intro a w _ u; exact ⟨rfl, rfl⟩
  | succ n ih =>
    intro a w h u
    have e1 : mw a w 0 = 0 := by unfold mw; split <;> rfl
    have e2 : mb a w 0 = 0 := by unfold mb; split <;> rfl
    rw [List.replicate_succ, swL, tw_zero h, e1, e2, List.foldl_cons, List.foldl_cons, Int.add_zero]
    exact ih a w h u
theorem zeros (n : Nat) : ∀ a w v : Int, Valid a w v → 0 ≤ (swL (List.replicate n 0) a w v).foldl upF 0 ∧ 0 ≤ (swL (List.replicate n 0) a w v).foldl downF 0 ∧ (swL (List.replicate n 0) a w v).foldl upF 0 + (swL (List.replicate n 0) a w v).foldl downF 0 ≤ 1 := by
  induction n with
  | zero => intro a w v _; exact ⟨Int.le_refl 0, Int.le_refl 0, show (0 : Int) + 0 ≤ 1 by decide⟩
  | succ n ih =>
    intro a w v h
    have hm := moved_valid h
    rw [List.replicate_succ, swL, tw_zero h, List.foldl_cons, List.foldl_cons]
    by_cases he : Ends (a + v) w v
    · have e1 : mw a w v = 0 := by unfold mw; rw [if_pos he]
      have e2 : mb a w v = v := by unfold mb; rw [if_pos he]
      rw [e1] at hm
      rw [e1, e2]
      have hb := h.1
      unfold Bnd at hb
      obtain ⟨s1, _⟩ := still n (a + v) w hm (upF 0 (a + v, w, 0, v))
      obtain ⟨_, s2⟩ := still n (a + v) w hm (downF 0 (a + v, w, 0, v))
      rw [s1, s2]
      have hv : v = 1 ∨ v = -1 := by unfold Ends at he; omega
      rcases hv with rfl | rfl
      · have u1 : upF 0 (a + 1, w, 0, 1) = 1 := (if_pos rfl).trans (wrap_id (0 + 1) (by decide) (by decide))
        have d1 : downF 0 (a + 1, w, 0, 1) = 0 := rfl
        rw [u1, d1]; decide
      · have u1 : upF 0 (a + -1, w, 0, -1) = 0 := rfl
        have d1 : downF 0 (a + -1, w, 0, -1) = 1 := (if_neg (show ¬ ((-1 : Int) = 1) by decide)).trans ((if_pos rfl).trans (wrap_id (0 + 1) (by decide) (by decide)))
        rw [u1, d1]; decide
    · have e1 : mw a w v = v := by unfold mw; rw [if_neg he]
      have e2 : mb a w v = 0 := by unfold mb; rw [if_neg he]
      rw [e1] at hm
      rw [e1, e2]
      exact ih (a + v) w v hm
theorem PanelBack : tipstafflaw16_PanelBack.Pure := by
  intro a0 l a2 i0 _ _ hl i2
  refine ⟨200, ?_⟩
  obtain ⟨a, w, v, hmade, hv⟩ := made_val 200 (by omega) a0 (i64_of i0) l hl
  obtain ⟨T, hT, hT'⟩ := mod_nat a2 60 (by omega)
  have hmod : tipstaffkit_Mod.f a2 60 = some (T : Int) := by rw [mod_val a2 60 (i64_of i2) (by omega) (by omega)]; exact congrArg some hT
  have h1 := tw_valid hv.1 4
  have hb := hv.1
  have hz := zeros T a w v hv
  obtain ⟨U, hU⟩ : ∃ U, (swL (List.replicate T 0) a w v).foldl upF 0 = U := ⟨_, rfl⟩
  obtain ⟨D, hD⟩ : ∃ D, (swL (List.replicate T 0) a w v).foldl downF 0 = D := ⟨_, rfl⟩
  rw [hU, hD] at hz
  have hsw : SW a w v (List.replicate T 0) = ((lastV (List.replicate T 0) a w v).1, (lastV (List.replicate T 0) a w v).2.1, (lastV (List.replicate T 0) a w v).2.2, U, D, 0) := by
    unfold SW
    rw [if_pos (chk_ok hv), if_neg (by rw [List.length_replicate]; omega), if_pos (okL_zeros T), hU, hD]
  have hUD : wrap64 (U + D) = U + D := wrap_id _ (by omega) (by omega)
  unfold tipstafflaw16_PanelBack.f
  rw [known_val 200 (by omega), Option.bind_some, hmade, Option.bind_some]
  simp only []
  rw [order_val 200 (by omega), if_pos (chk_ok hv), if_pos (by decide), Option.bind_some]
  simp only []
  rw [order_val 200 (by omega), if_pos (chk_ok h1), if_pos (by decide), Option.bind_some]
  simp only []
  rw [hmod, Option.bind_some, if_pos (by omega), Int.toNat_natCast, if_pos (by omega), swing_val 200 (by omega), hsw, Option.bind_some]
  simp only []
  simp only [if_true, hUD]
  rw [if_neg (show ¬ U + D > 1 by omega)]
  unfold Bnd at hb
  have ht : ∀ x : Int, -1 ≤ x → x ≤ 1 → turned 4 x = -x := fun x _ _ => by show wrap64 (-x) = -x; exact wrap_id _ (by omega) (by omega)
  by_cases hE : Ends a w (-v)
  · have e1 : tw a w v 4 = 0 := by unfold tw; rw [ht v (by omega) (by omega), if_pos hE]
    have e2 : tw a w (0 : Int) 4 = 0 := by unfold tw; rw [ht 0 (by decide) (by decide), show -(0 : Int) = 0 from rfl]; split <;> rfl
    rw [e1, e2]
    have hv0 : v ≠ 0 := by unfold Ends at hE; omega
    rw [if_neg (by simp; omega)]
    by_cases ha : a = 0
    · rw [if_pos ha, if_pos rfl]; simp
    · rw [if_neg ha, if_pos (by unfold Ends at hE; omega), if_pos rfl]; simp
  · have e1 : tw a w v 4 = -v := by unfold tw; rw [ht v (by omega) (by omega), if_neg hE]
    have e2 : tw a w (-v) 4 = v := by unfold tw; rw [ht (-v) (by omega) (by omega), Int.neg_neg, if_neg hv.2]
    rw [e1, e2, if_pos (by simp)]

end Go.Proofs.Ytbkidegpgpccfaa.Pure
