/- Swings, least ticks and orders are the specification's: for all panels, orders and numbers. -/
import Derived.Test.YtbkidegpgpccfaaAskPanelSwings
import Derived.Test.YtbkidegpgpccfaaPan2
namespace Go.Proofs.Ytbkidegpgpccfaa.Pure
open Go.RowKit Go.Proofs.Ytbkidegpgpccfaa.S Go.Proofs.YtbkidegpgpccfaaW.PrintWords Go.Proofs.YtbkidegpgpccfaaW.PrintLast
set_option linter.unusedVariables false
set_option linter.unusedSimpArgs false

-- two equal lists are told to be equal (as in the session's Kit, without what else that needs)
theorem sw_same_loop (a b : List Int) (hl : a.length = b.length) (hm : a.length ≤ 9223372036854775807) : ∀ (d k i : Nat), i + d = a.length → d < k →
    tipstaffkit_SameInts.l0 k a b (i : Int) = some (decide (a.drop i = b.drop i)) := by
  intro d
  induction d with
  | zero =>
    intro k i hi hk
    obtain ⟨k, rfl, hk⟩ := succ_of hk
    unfold tipstaffkit_SameInts.l0
    rw [if_neg (by omega), List.drop_eq_nil_of_le (by omega), List.drop_eq_nil_of_le (by omega)]; rfl
  | succ d ih =>
    intro k i hi hk
    obtain ⟨k, rfl, hk⟩ := succ_of hk
    unfold tipstaffkit_SameInts.l0
    rw [if_pos (by omega), if_pos (by omega), if_pos (by omega), drop_rd a i (by omega), drop_rd b i (by omega)]
    by_cases hx : rd a (i : Int) = rd b (i : Int)
    · rw [if_pos hx, wrap_succ i (by omega), ih k (i + 1) (by omega) (by omega)]; simp [hx]
    · rw [if_neg hx]; simp [hx]

theorem sw_same_val (a b : List Int) (hm : a.length ≤ 9223372036854775807) {k : Nat} (hk : a.length < k) : tipstaffkit_SameInts.f k a b = some (decide (a = b)) := by
  unfold tipstaffkit_SameInts.f
  by_cases h : a.length = b.length
  · rw [if_pos (by omega)]
    exact sw_same_loop a b h hm a.length k 0 (by omega) hk
  · rw [if_neg (by omega)]
    congr 1
    exact (decide_eq_false (fun e => h (by rw [e]))).symm

theorem sw_same_self (a : List Int) (hm : a.length ≤ 9223372036854775807) {k : Nat} (hk : a.length < k) : tipstaffkit_SameInts.f k a a = some true := by
  rw [sw_same_val a a hm hk]; simp

theorem awake_val' : ∀ k, 100 ≤ k → tipstafflaw16_awake.f k = some true := fun _ hk => at_rounds tipstafflaw16_awake.mono hk (by decide +kernel)

theorem ordF_own (a w v p t : Int) : (OR a w v p t).1.length ≤ 1000 := by
  unfold OR
  by_cases h : (LS a w v p).2 = 0
  · rw [if_pos h]
    by_cases h1 : t < 0 ∨ t > 1000
    · rw [if_pos h1]; simp
    · rw [if_neg h1]
      by_cases h2 : t < (LS a w v p).1
      · rw [if_pos h2]; simp
      · rw [if_neg h2]
        show (ordF _ _ _ _).length ≤ 1000
        rw [ordF_len]; omega
  · rw [if_neg h]; simp

theorem PanelSwings : PanelSwings.Stmt := by
  intro a w v l x t _ _ _ hl _ _ _
  obtain ⟨K, hK⟩ : ∃ K : Nat, K = 1100 := ⟨_, rfl⟩
  refine ⟨K + 1 + 1, ?_⟩
  have big : tipstafflaw16_PanelSwings.j0 (K + 1 + 1) l x t true a w v = some true := by
    rw [tipstafflaw16_PanelSwings.j0, if_pos rfl, awake_val' _ (by omega)]; rfl
  have small : l.length ≤ 1010 → tipstafflaw16_PanelSwings.j0 (K + 1 + 1) l x t false a w v = some true := by
    intro hlen
    have ho : tipstaffkit_OwnInts.f l = some l := by
      unfold tipstaffkit_OwnInts.f
      rw [Option.bind_some, if_pos (by simp; omega)]; rfl
    have hO := ordF_own a w v x t
    rw [tipstafflaw16_PanelSwings.j0, if_neg (by decide), ho, Option.bind_some, swing_val _ (by omega), Option.bind_some, swing_ref _ _ _ _ _ (by omega), Option.bind_some, beq_self_eq_true, beq_self_eq_true, beq_self_eq_true, if_neg (by decide), if_pos rfl, if_pos rfl, if_pos rfl, sw_same_self l (by omega) (by omega), Option.bind_some, Bool.not_true]
    rw [tipstafflaw16_PanelSwings.j1, if_neg (by decide), least_val _ (by omega), Option.bind_some, least_ref _ (by omega), Option.bind_some, ord_val _ (by omega), Option.bind_some, ord_ref _ (by omega), Option.bind_some, if_pos rfl, if_pos rfl, sw_same_self _ (by omega) (by omega), Option.bind_some, if_pos rfl, if_pos rfl, awake_val' _ (by omega)]; rfl
  unfold tipstafflaw16_PanelSwings.f
  by_cases h1 : (l.length : Int) > 200
  · rw [if_pos h1]
    by_cases h2 : (l.length : Int) ≤ 1000
    · rw [if_pos h2]; exact big
    · rw [if_neg h2]
      by_cases h3 : (l.length : Int) > 1010
      · rw [decide_eq_true h3]; exact big
      · rw [decide_eq_false h3]; exact small (by omega)
  · rw [if_neg h1, decide_eq_false (by omega)]; exact small (by omega)

end Go.Proofs.Ytbkidegpgpccfaa.Pure
