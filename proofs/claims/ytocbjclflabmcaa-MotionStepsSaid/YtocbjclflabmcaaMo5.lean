/- The program and the specification on any motion. -/
import Derived.Test.YtocbjclflabmcaaMoR
import Derived.Test.YtocbjclflabmcaaS12
import Derived.Test.YtocbjclflabmcaaS11
import Derived.Test.YtocbjclflabmcaaS10
import Derived.Test.YtocbjclflabmcaaS7
import Derived.Test.YtocbjclflabmcaaS6
import Derived.Test.YtocbjclflabmcaaS5
import Derived.Test.YtocbjclflabmcaaS4
namespace Go.Proofs.Ytocbjclflabmcaa.Pure
open Go.RowKit Go.Proofs.Ytocbjclflabmcaa.S Go.Proofs.YtocbjclflabmcaaW.PrintWords Go.Proofs.YtocbjclflabmcaaW.PrintLast
set_option linter.unusedVariables false
set_option linter.unusedSimpArgs false

theorem rcheck_at (p g s m : Int) (k : Nat) (hk : 1 ≤ k) : tipstaffref09_Check.f k p g s m = some (chk p g s m) := by
  obtain ⟨k, rfl⟩ : ∃ j, k = j + 1 := ⟨k - 1, by omega⟩
  exact rcheck_val p g s m k

theorem step_both (p g s m : Int) : ∃ v, motion_Step.f p g s m = some v ∧ ∀ k, 10 ≤ k → tipstaffref09_Step.f k p g s m = some v := by
  by_cases c : chk p g s m = 0
  · have h := chk_ok.1 c
    refine ⟨_, step_val h, fun k hk => ?_⟩
    unfold tipstaffref09_Step.f
    rw [rcheck_at _ _ _ _ _ (by omega), Option.bind_some, if_pos c, rtick_val h k (by omega)]; rfl
  · refine ⟨(0, 0, 0, 0, chk p g s m), ?_, fun k hk => ?_⟩
    · unfold motion_Step.f; rw [check_val, Option.map_some, if_neg c]
    · unfold tipstaffref09_Step.f
      rw [rcheck_at _ _ _ _ _ (by omega), Option.bind_some, if_neg c]

theorem stop_both (p g s m : Int) : ∃ v, motion_Stop.f p g s m = some v ∧ ∀ k, 10 ≤ k → tipstaffref09_Stop.f k p g s m = some v := by
  by_cases c : chk p g s m = 0
  · have h := chk_ok.1 c
    refine ⟨_, stop_val h, fun k hk => ?_⟩
    unfold tipstaffref09_Stop.f
    rw [rcheck_at _ _ _ _ _ (by omega), Option.bind_some, if_pos c]
  · refine ⟨(0, 0, 0, 0, chk p g s m), ?_, fun k hk => ?_⟩
    · unfold motion_Stop.f; rw [check_val, Option.map_some, if_neg c]
    · unfold tipstaffref09_Stop.f
      rw [rcheck_at _ _ _ _ _ (by omega), Option.bind_some, if_neg c]

theorem run_both (p g s m n : Int) : ∃ v, motion_Run.f p g s m n = some v ∧ ∀ k, 100020 ≤ k → tipstaffref09_Run.f k p g s m n = some v := by
  by_cases c : chk p g s m = 0
  · have h := chk_ok.1 c
    by_cases c1 : n < 0
    · refine ⟨(0, 0, 0, 0, 2), ?_, fun k hk => ?_⟩
      · unfold motion_Run.f; rw [check_val, Option.map_some, if_pos c, if_pos (.inl c1)]
      · obtain ⟨k, rfl⟩ : ∃ j, k = j + 1 + 1 := ⟨k - 2, by omega⟩
        unfold tipstaffref09_Run.f
        rw [rcheck_at _ _ _ _ _ (by omega), Option.bind_some, if_pos c, if_pos c1, tipstaffref09_Run.j0, if_pos rfl, tipstaffref09_Run.j1, if_neg (by decide)]
    · by_cases c2 : n > 100000
      · refine ⟨(0, 0, 0, 0, 2), ?_, fun k hk => ?_⟩
        · unfold motion_Run.f; rw [check_val, Option.map_some, if_pos c, if_pos (.inr c2)]
        · obtain ⟨k, rfl⟩ : ∃ j, k = j + 1 + 1 := ⟨k - 2, by omega⟩
          unfold tipstaffref09_Run.f
          rw [rcheck_at _ _ _ _ _ (by omega), Option.bind_some, if_pos c, if_neg c1, decide_eq_true c2, tipstaffref09_Run.j0, if_pos rfl, tipstaffref09_Run.j1, if_neg (by decide)]
      · refine ⟨_, run_val h n (by omega) (by omega), fun k hk => ?_⟩
        obtain ⟨k, rfl⟩ : ∃ j, k = j + 1 + 1 := ⟨k - 2, by omega⟩
        unfold tipstaffref09_Run.f
        rw [rcheck_at _ _ _ _ _ (by omega), Option.bind_some, if_pos c, if_neg c1, decide_eq_false c2, tipstaffref09_Run.j0, if_neg (by decide), tipstaffref09_Run.j1, if_pos c]
        obtain ⟨N, rfl⟩ : ∃ N : Nat, n = N := ⟨n.toNat, by omega⟩
        rw [Int.toNat_natCast]
        exact rrun_loop N (by omega) N 0 k (by omega) (by omega) h
  · refine ⟨(0, 0, 0, 0, chk p g s m), ?_, fun k hk => ?_⟩
    · unfold motion_Run.f; rw [check_val, Option.map_some, if_neg c]
    · obtain ⟨k, rfl⟩ : ∃ j, k = j + 1 + 1 := ⟨k - 2, by omega⟩
      unfold tipstaffref09_Run.f
      rw [rcheck_at _ _ _ _ _ (by omega), Option.bind_some, if_neg c, tipstaffref09_Run.j0, if_neg (by decide), tipstaffref09_Run.j1, if_neg c]

theorem left_both (p g s m : Int) : ∃ v, ∀ k, 63020 ≤ k → motion_Left.f k p g s m = some v ∧ tipstaffref09_Left.f k p g s m = some v := by
  by_cases c : chk p g s m = 0
  · have h := chk_ok.1 c
    have hl := (posX_spec h).2
    refine ⟨_, fun k hk => ⟨left_val h k (by omega), ?_⟩⟩
    unfold tipstaffref09_Left.f
    rw [rcheck_at _ _ _ _ _ (by omega), Option.bind_some, if_pos c, rleft_loop p s h k 0 (by omega) (by omega) (by omega)]
    simp
  · refine ⟨(0, chk p g s m), fun k hk => ⟨?_, ?_⟩⟩
    · unfold motion_Left.f; rw [check_val, Option.bind_some, if_neg c]
    · unfold tipstaffref09_Left.f
      rw [rcheck_at _ _ _ _ _ (by omega), Option.bind_some, if_neg c]

theorem nearest_both (p g s m : Int) : ∃ v, motion_Nearest.f p g s m = some v ∧ (∀ k, 10 ≤ k → tipstaffref09_Nearest.f k p g s m = some v) ∧ v.2 = chk p g s m := by
  by_cases c : chk p g s m = 0
  · have h := chk_ok.1 c
    refine ⟨_, nearest_val h, fun k hk => ?_, c.symm⟩
    have hv := nearest_val h
    unfold motion_Nearest.f at hv
    rw [check_val, Option.bind_some, if_pos c] at hv
    unfold tipstaffref09_Nearest.f
    rw [rcheck_at _ _ _ _ _ (by omega), Option.bind_some, if_pos c, rway_val, Option.bind_some, rtri_val, Option.bind_some, ← hv]
    split <;> rfl
  · refine ⟨(0, chk p g s m), ?_, fun k hk => ?_, rfl⟩
    · unfold motion_Nearest.f; rw [check_val, Option.bind_some, if_neg c]
    · unfold tipstaffref09_Nearest.f
      rw [rcheck_at _ _ _ _ _ (by omega), Option.bind_some, if_neg c]

theorem turn_both (p g s m x : Int) : ∃ v, motion_Turn.f p g s m x = some v ∧ ∀ k, 20 ≤ k → tipstaffref09_Turn.f k p g s m x = some v := by
  obtain ⟨⟨n1, n2⟩, h1, h2, h3⟩ := nearest_both p g s m
  have hp : motion_place.f x = some (decide (0 ≤ x ∧ x ≤ 63000)) := by
    unfold motion_place.f
    by_cases c : x ≥ 0
    · rw [if_pos c]; congr 1; simp only [decide_eq_decide]; omega
    · rw [if_neg c]; congr 1; symm; rw [decide_eq_false_iff_not]; omega
  unfold motion_Turn.f
  rw [h1, Option.bind_some]
  simp only
  by_cases c : n2 = 0
  · rw [if_pos c, hp, Option.map_some]
    refine ⟨_, rfl, fun k hk => ?_⟩
    obtain ⟨k, rfl⟩ : ∃ j, k = j + 1 + 1 + 1 + 1 := ⟨k - 4, by omega⟩
    unfold tipstaffref09_Turn.f
    rw [h2 _ (by omega), Option.bind_some]
    simp only
    rw [if_pos c]
    by_cases c1 : x < 0
    · rw [if_pos c1, tipstaffref09_Turn.j0, if_pos rfl, tipstaffref09_Turn.j1, if_neg (by decide), tipstaffref09_Turn.j2, if_neg (by decide), tipstaffref09_Turn.j3, if_neg (by decide), decide_eq_false (by omega), if_pos rfl]
    · rw [if_neg c1]
      by_cases c2 : x > 63000
      · rw [decide_eq_true c2, tipstaffref09_Turn.j0, if_pos rfl, tipstaffref09_Turn.j1, if_neg (by decide), tipstaffref09_Turn.j2, if_neg (by decide), tipstaffref09_Turn.j3, if_neg (by decide), decide_eq_false (by omega), if_pos rfl]
      · rw [decide_eq_false c2, tipstaffref09_Turn.j0, if_neg (by decide), tipstaffref09_Turn.j1, if_pos c, decide_eq_true (show 0 ≤ x ∧ x ≤ 63000 by omega), if_neg (show ¬ (true = false) by decide)]
        by_cases c3 : s > 0
        · rw [if_pos c3, rway_val, Option.bind_some, tipstaffref09_Turn.j2]
          by_cases c4 : wrap64 (wayV p g * wrap64 (x - n1)) < 0
          · rw [decide_eq_true c4, if_pos rfl, tipstaffref09_Turn.j3, if_neg (by decide), if_pos ⟨c3, c4⟩]
          · rw [decide_eq_false c4, if_neg (by decide), tipstaffref09_Turn.j3, if_pos c, if_neg (show ¬ (0 < s ∧ wrap64 (wayV p g * wrap64 (x - n1)) < 0) from fun e => c4 e.2)]
            split <;> rfl
        · rw [if_neg c3, tipstaffref09_Turn.j2, if_neg (by decide), tipstaffref09_Turn.j3, if_pos c, if_neg (show ¬ (0 < s ∧ wrap64 (wayV p g * wrap64 (x - n1)) < 0) from fun e => c3 e.1)]
          split <;> rfl
  · rw [if_neg c]
    refine ⟨_, rfl, fun k hk => ?_⟩
    obtain ⟨k, rfl⟩ : ∃ j, k = j + 1 + 1 + 1 + 1 := ⟨k - 4, by omega⟩
    unfold tipstaffref09_Turn.f
    rw [h2 _ (by omega), Option.bind_some]
    simp only
    rw [if_neg c, tipstaffref09_Turn.j0, if_neg (by decide), tipstaffref09_Turn.j1, if_neg c, tipstaffref09_Turn.j2, if_neg (by decide), tipstaffref09_Turn.j3, if_neg c]

theorem path_both (p g s m n : Int) : ∃ v, (∀ k, 63020 ≤ k → motion_Path.f k p g s m n = some v ∧ tipstaffref09_Path.f k p g s m n = some v) ∧ v.1.length ≤ 1000 := by
  by_cases c : chk p g s m = 0
  · have h := chk_ok.1 c
    have hl := (posX_spec h).2
    by_cases c1 : n < 0
    · refine ⟨([], 2), fun k hk => ⟨?_, ?_⟩, by simp⟩
      · unfold motion_Path.f; rw [check_val, Option.bind_some, if_pos c, if_pos (.inl c1)]
      · obtain ⟨k, rfl⟩ : ∃ j, k = j + 1 + 1 := ⟨k - 2, by omega⟩
        unfold tipstaffref09_Path.f
        rw [rcheck_at _ _ _ _ _ (by omega), Option.bind_some, if_pos c, if_pos c1, tipstaffref09_Path.j0, if_pos rfl, tipstaffref09_Path.j1, if_neg (by decide)]
    · by_cases c2 : n > 1000
      · refine ⟨([], 2), fun k hk => ⟨?_, ?_⟩, by simp⟩
        · unfold motion_Path.f; rw [check_val, Option.bind_some, if_pos c, if_pos (.inr c2)]
        · obtain ⟨k, rfl⟩ : ∃ j, k = j + 1 + 1 := ⟨k - 2, by omega⟩
          unfold tipstaffref09_Path.f
          rw [rcheck_at _ _ _ _ _ (by omega), Option.bind_some, if_pos c, if_neg c1, decide_eq_true c2, tipstaffref09_Path.j0, if_pos rfl, tipstaffref09_Path.j1, if_neg (by decide)]
      · obtain ⟨N, rfl⟩ : ∃ N : Nat, n = N := ⟨n.toNat, by omega⟩
        refine ⟨((posX p g s m).take N, 0), fun k hk => ⟨path_val h N (by omega) k (by omega), ?_⟩, by simp; omega⟩
        obtain ⟨k, rfl⟩ : ∃ j, k = j + 1 + 1 := ⟨k - 2, by omega⟩
        unfold tipstaffref09_Path.f
        rw [rcheck_at _ _ _ _ _ (by omega), Option.bind_some, if_pos c, if_neg c1, decide_eq_false c2, tipstaffref09_Path.j0, if_neg (by decide), tipstaffref09_Path.j1, if_pos c]
        have := rpath_loop N (by omega) p s h k 0 [] (by omega) (by omega) rfl
        rw [show ((0 : Nat) : Int) = 0 from rfl] at this
        rw [this]; simp
  · refine ⟨([], chk p g s m), fun k hk => ⟨?_, ?_⟩, by simp⟩
    · unfold motion_Path.f; rw [check_val, Option.bind_some, if_neg c]
    · obtain ⟨k, rfl⟩ : ∃ j, k = j + 1 + 1 := ⟨k - 2, by omega⟩
      unfold tipstaffref09_Path.f
      rw [rcheck_at _ _ _ _ _ (by omega), Option.bind_some, if_neg c, tipstaffref09_Path.j0, if_neg (by decide), tipstaffref09_Path.j1, if_neg c]

end Go.Proofs.Ytocbjclflabmcaa.Pure
