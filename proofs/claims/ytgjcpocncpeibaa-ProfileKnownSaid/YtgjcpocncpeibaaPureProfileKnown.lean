/- The chapter's examples. -/
import Derived.Test.YtgjcpocncpeibaaS18
import Derived.Test.YtgjcpocncpeibaaRefs
namespace Go.Proofs.Ytgjcpocncpeibaa.Pure
open Go.RowKit Go.Proofs.Ytgjcpocncpeibaa.S Go.Proofs.YtgjcpocncpeibaaW.PrintWords Go.Proofs.YtgjcpocncpeibaaW.PrintLast
set_option linter.unusedVariables false
set_option linter.unusedSimpArgs false

theorem known_j2 (k : Nat) (hk : 63100 ≤ k) : tipstafflaw08_ProfileKnown.j2 (k + 1) false = some true := by
  have f5 : far 5 3 = 9 := by decide +kernel
  have f4 : far 4 3 = 6 := by decide +kernel
  have f0 : far 0 3 = 0 := by decide +kernel
  have h5 : profile_Reach.f k 5 3 = some (9, 0) := by have := reach_val 5 3 k (by omega) (by omega) (by omega) (by omega); rw [f5] at this; exact this
  have h4 : profile_Reach.f k 4 3 = some (6, 0) := by have := reach_val 4 3 k (by omega) (by omega) (by omega) (by omega); rw [f4] at this; exact this
  have h0 : profile_Reach.f k 0 3 = some (0, 0) := by have := reach_val 0 3 k (by omega) (by omega) (by omega) (by omega); rw [f0] at this; exact this
  have hm : profile_Reach.f k (-1) 3 = some (0, 2) := by
    unfold profile_Reach.f
    rw [limits_val, decide_eq_false (by omega), Option.bind_some, if_neg (by decide)]
  rw [tipstafflaw08_ProfileKnown.j2, if_neg (by decide), h5, Option.bind_some, h4, Option.bind_some, h0, Option.bind_some, hm, Option.bind_some, if_pos rfl, if_pos rfl, if_pos rfl, if_pos rfl, if_pos rfl, if_pos rfl, if_pos rfl, awake_val k (by omega)]; rfl

theorem known_end (k : Nat) (hk : 63101 ≤ k) : tipstafflaw08_ProfileKnown.l0 (k + 1) [0, 1, 2, 3, 3, 4, 4, 5, 5, 5] 10 = some true := by
  have p9 : profile_Peak.f k 9 3 = some (3, 0) := at_rounds (profile_Peak.mono 9 3) (show 100 ≤ k by omega) (by decide +kernel)
  have p8 : profile_Peak.f k 8 3 = some (2, 0) := at_rounds (profile_Peak.mono 8 3) (show 100 ≤ k by omega) (by decide +kernel)
  have s7 : tipstafflaw08_speeds.f k 7 [1, 2, 2, 1, 1] = some true := at_rounds (tipstafflaw08_speeds.mono 7 _) (show 100 ≤ k by omega) (by decide +kernel)
  have g0 : tipstafflaw08_gone.f k 0 0 0 = some true := at_rounds (tipstafflaw08_gone.mono 0 0 0) (show 100 ≤ k by omega) (by decide +kernel)
  have g2 : tipstafflaw08_gone.f k 2 3 2 = some true := at_rounds (tipstafflaw08_gone.mono 2 3 2) (show 100 ≤ k by omega) (by decide +kernel)
  have g5 : tipstafflaw08_gone.f k 5 9 0 = some true := at_rounds (tipstafflaw08_gone.mono 5 9 0) (show 100 ≤ k by omega) (by decide +kernel)
  have g99 : tipstafflaw08_gone.f k 99 9 0 = some true := at_rounds (tipstafflaw08_gone.mono 99 9 0) (show 100 ≤ k by omega) (by decide +kernel)
  obtain ⟨k, rfl⟩ : ∃ m, k = m + 1 := ⟨k - 1, by omega⟩
  rw [tipstafflaw08_ProfileKnown.l0, if_neg (by decide), p9, Option.bind_some, p8, Option.bind_some, if_pos rfl, if_pos rfl, if_pos rfl, if_pos rfl, s7, Option.bind_some, if_pos rfl, g0, Option.bind_some, if_pos rfl, g2, Option.bind_some, if_pos rfl, g5, Option.bind_some, if_pos rfl, g99, Option.bind_some]
  exact known_j2 k (by omega)

theorem known_round (k : Nat) (hk : 100 ≤ k) (i : Int) (r : Int) (h : profile_Travel.f 100 i 3 = some (r, 0)) (hi : 0 ≤ i ∧ i < 10) (hr : r = rd [0, 1, 2, 3, 3, 4, 4, 5, 5, 5] i) (x : Option Bool)
    (ih : tipstafflaw08_ProfileKnown.l0 k [0, 1, 2, 3, 3, 4, 4, 5, 5, 5] (i + 1) = x) : tipstafflaw08_ProfileKnown.l0 (k + 1) [0, 1, 2, 3, 3, 4, 4, 5, 5, 5] i = x := by
  rw [tipstafflaw08_ProfileKnown.l0, if_pos (by show i < 10; omega), at_rounds (profile_Travel.mono i 3) hk h, Option.bind_some, if_pos hi.1, if_pos hr, if_pos rfl, wrap_id (i + 1) (by omega) (by omega), ih]

theorem ProfileKnown : tipstafflaw08_ProfileKnown.Pure := by
  obtain ⟨K, hK⟩ : ∃ K : Nat, K = 63101 := ⟨_, rfl⟩
  refine ⟨K + 1 + 10 + 1, ?_⟩
  have hN : profile_Next.f (K + 1 + 10 + 1) 3 1 3 = some (0, 9) := at_rounds (profile_Next.mono 3 1 3) (show 100 ≤ _ by omega) (by decide +kernel)
  have n0 : tipstafflaw08_next.f (K + 1 + 10 + 1) 0 9 1 = some true := at_rounds (tipstafflaw08_next.mono 0 9 1) (show 100 ≤ _ by omega) (by decide +kernel)
  have n1 : tipstafflaw08_next.f (K + 1 + 10 + 1) 1 8 2 = some true := at_rounds (tipstafflaw08_next.mono 1 8 2) (show 100 ≤ _ by omega) (by decide +kernel)
  have n3 : tipstafflaw08_next.f (K + 1 + 10 + 1) 3 3 2 = some true := at_rounds (tipstafflaw08_next.mono 3 3 2) (show 100 ≤ _ by omega) (by decide +kernel)
  have n4 : tipstafflaw08_next.f (K + 1 + 10 + 1) 1 0 0 = some true := at_rounds (tipstafflaw08_next.mono 1 0 0) (show 100 ≤ _ by omega) (by decide +kernel)
  have t3 : profile_Tri.f 3 = some (6, 0) := by decide +kernel
  have t20 : profile_Tri.f 20 = some (210, 0) := by decide +kernel
  have t21 : profile_Tri.f 21 = some (0, 2) := by decide +kernel
  unfold tipstafflaw08_ProfileKnown.f
  rw [t3, Option.bind_some, t20, Option.bind_some, t21, Option.bind_some, hN, Option.bind_some, if_pos rfl, if_pos rfl, if_pos rfl, if_pos rfl, if_pos rfl, if_pos rfl, n0, Option.bind_some, if_pos rfl, n1, Option.bind_some, if_pos rfl, n3, Option.bind_some, if_pos rfl, n4, Option.bind_some, Bool.not_true, tipstafflaw08_ProfileKnown.j0, if_neg (by decide)]
  refine known_round (K + 1 + 9) (by omega) 0 0 (by decide +kernel) (by omega) (by decide) _ ?_
  refine known_round (K + 1 + 8) (by omega) 1 1 (by decide +kernel) (by omega) (by decide) _ ?_
  refine known_round (K + 1 + 7) (by omega) 2 2 (by decide +kernel) (by omega) (by decide) _ ?_
  refine known_round (K + 1 + 6) (by omega) 3 3 (by decide +kernel) (by omega) (by decide) _ ?_
  refine known_round (K + 1 + 5) (by omega) 4 3 (by decide +kernel) (by omega) (by decide) _ ?_
  refine known_round (K + 1 + 4) (by omega) 5 4 (by decide +kernel) (by omega) (by decide) _ ?_
  refine known_round (K + 1 + 3) (by omega) 6 4 (by decide +kernel) (by omega) (by decide) _ ?_
  refine known_round (K + 1 + 2) (by omega) 7 5 (by decide +kernel) (by omega) (by decide) _ ?_
  refine known_round (K + 1 + 1) (by omega) 8 5 (by decide +kernel) (by omega) (by decide) _ ?_
  refine known_round (K + 1 + 0) (by omega) 9 5 (by decide +kernel) (by omega) (by decide) _ ?_
  exact known_end K (by omega)

end Go.Proofs.Ytgjcpocncpeibaa.Pure
