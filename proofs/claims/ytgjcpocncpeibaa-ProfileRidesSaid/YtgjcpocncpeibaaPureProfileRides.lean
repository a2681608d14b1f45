/- How long a ride takes, its greatest speed, its speeds and how far it has gone are the specification's: for all numbers. -/
import Derived.Test.YtgjcpocncpeibaaS13
import Derived.Test.YtgjcpocncpeibaaRefs
namespace Go.Proofs.Ytgjcpocncpeibaa.Pure
open Go.RowKit Go.Proofs.Ytgjcpocncpeibaa.S Go.Proofs.YtgjcpocncpeibaaW.PrintWords Go.Proofs.YtgjcpocncpeibaaW.PrintLast
set_option linter.unusedVariables false
set_option linter.unusedSimpArgs false

theorem ProfileRides : tipstafflaw08_ProfileRides.Pure := by
  intro a0 a1 a2 w0 w1 w2
  have hi2 := i64_of w2
  unfold I64 at hi2
  obtain ⟨K, hK⟩ : ∃ K : Nat, K = 200000 := ⟨_, rfl⟩
  refine ⟨K + 1 + 1 + 1, ?_⟩
  have h : (∃ p, profile_Travel.f (K + 1 + 1 + 1) a0 a1 = some p ∧ tipstaffref08_Travel.f (K + 1 + 1 + 1) a0 a1 = some p)
      ∧ (∃ p, profile_Peak.f (K + 1 + 1 + 1) a0 a1 = some p ∧ tipstaffref08_Peak.f (K + 1 + 1 + 1) a0 a1 = some p)
      ∧ (∃ p, profile_Speeds.f (K + 1 + 1) a0 a1 = some p ∧ tipstaffref08_Speeds.f (K + 1 + 1) a0 a1 = some p ∧ p.1.length ≤ 63000)
      ∧ (∃ p, profile_Gone.f (K + 1 + 1) a0 a1 a2 = some p ∧ tipstaffref08_Gone.f (K + 1 + 1) a0 a1 a2 = some p) := by
    by_cases c1 : 0 ≤ a0 ∧ a0 ≤ 63000 ∧ 1 ≤ a1 ∧ a1 ≤ 20
    · obtain ⟨n, rfl⟩ := Int.eq_ofNat_of_zero_le c1.1
      obtain ⟨L, rfl⟩ := Int.eq_ofNat_of_zero_le (show 0 ≤ a1 by omega)
      obtain ⟨h1, h2, h3, h4⟩ := rideX_spec n L (by omega) (by omega) (by omega)
      have hT : ∀ k, 100000 < k → tipstaffref08_Travel.f k (n : Int) (L : Int) = some (((rideX n L).length : Int), 0) := fun k hk => by
        unfold tipstaffref08_Travel.f
        rw [asks_val, if_pos c1, Option.bind_some, if_pos rfl, ride_ref n L k (by omega) (by omega) (by omega) (by omega)]; rfl
      refine ⟨⟨_, trav n L _ (by omega) (by omega) (by omega) (by omega), hT _ (by omega)⟩, ⟨(peakOf (rideX n L), 0), ?_, ?_⟩, ⟨_, speeds_val n L _ (by omega) (by omega) (by omega) (by omega), ?_, ?_⟩, ?_⟩
      · unfold profile_Peak.f
        rw [limits_val, decide_eq_true c1, Option.bind_some, if_pos rfl, travel_val n L _ (by omega) (by omega) (by omega) (by omega)]; rfl
      · unfold tipstaffref08_Peak.f
        rw [asks_val, if_pos c1, Option.bind_some, if_pos rfl, ride_ref n L _ (by omega) (by omega) (by omega) (by omega)]; rfl
      · unfold tipstaffref08_Speeds.f
        rw [hT _ (by omega), Option.bind_some, if_pos rfl]
        by_cases c2 : (rideX n L).length > 1000
        · rw [decide_eq_true (by show ((rideX n L).length : Int) > 1000; omega), tipstaffref08_Speeds.j0, if_pos rfl, tipstaffref08_Speeds.j1, if_neg (by decide), if_pos c2]
        · rw [decide_eq_false (by show ¬ ((rideX n L).length : Int) > 1000; omega), tipstaffref08_Speeds.j0, if_neg (by decide), tipstaffref08_Speeds.j1, if_pos rfl, if_neg c2]
          have := speeds_ref_loop L (by omega) h2 K [] (by omega) (by omega) (by simp; omega) (by omega)
          rw [show ((0 : Nat) : Int) = 0 from rfl] at this
          rw [this]; rfl
      · split
        · simp
        · simp; omega
      · by_cases c3 : a2 < 0
        · refine ⟨(0, 0, 2), ?_, ?_⟩
          · unfold profile_Gone.f
            rw [limits_val, decide_eq_true c1, Option.bind_some, if_pos rfl, if_pos c3]
          · unfold tipstaffref08_Gone.f
            rw [asks_val, if_pos c1, Option.bind_some, if_pos rfl, decide_eq_true c3, tipstaffref08_Gone.j0, if_pos rfl, tipstaffref08_Gone.j1, if_neg (by decide)]
        · refine ⟨_, gone_val n L _ a2 (by omega) (by omega) (by omega) (by omega) (by omega) (by omega), ?_⟩
          unfold tipstaffref08_Gone.f
          rw [asks_val, if_pos c1, Option.bind_some, if_pos rfl, decide_eq_false c3, tipstaffref08_Gone.j0, if_neg (by decide), tipstaffref08_Gone.j1, if_pos rfl]
          have := gone_ref_loop L n a2 (by omega) (by omega) h2 K 0 0 (by omega) (by omega) (by omega) (by omega) (by omega) (by omega)
          rw [show ((0 : Nat) : Int) = 0 from rfl, Int.sub_zero] at this
          rw [this]; rfl
    · have hT : ∀ k, tipstaffref08_Travel.f k a0 a1 = some (0, 2) := fun k => by
        unfold tipstaffref08_Travel.f
        rw [asks_val, if_neg c1, Option.bind_some, if_neg (by decide)]
      refine ⟨⟨(0, 2), ?_, hT _⟩, ⟨(0, 2), ?_, ?_⟩, ⟨([], 2), ?_, ?_, by simp⟩, ⟨(0, 0, 2), ?_, ?_⟩⟩
      · unfold profile_Travel.f
        rw [limits_val, decide_eq_false c1, Option.bind_some, if_neg (by decide)]
      · unfold profile_Peak.f
        rw [limits_val, decide_eq_false c1, Option.bind_some, if_neg (by decide)]
      · unfold tipstaffref08_Peak.f
        rw [asks_val, if_neg c1, Option.bind_some, if_neg (by decide)]
      · unfold profile_Speeds.f
        rw [limits_val, decide_eq_false c1, Option.bind_some, if_neg (by decide)]
      · unfold tipstaffref08_Speeds.f
        rw [hT, Option.bind_some, if_neg (by decide), tipstaffref08_Speeds.j0, if_neg (by decide), tipstaffref08_Speeds.j1, if_neg (by decide)]
      · unfold profile_Gone.f
        rw [limits_val, decide_eq_false c1, Option.bind_some, if_neg (by decide)]
      · unfold tipstaffref08_Gone.f
        rw [asks_val, if_neg c1, Option.bind_some, if_neg (by decide), tipstaffref08_Gone.j0, if_neg (by decide), tipstaffref08_Gone.j1, if_neg (by decide)]
  obtain ⟨⟨p, e1, e2⟩, ⟨q, e3, e4⟩, ⟨r, e5, e6, e9⟩, ⟨s, e7, e8⟩⟩ := h
  unfold tipstafflaw08_ProfileRides.f
  rw [e1, Option.bind_some, e2, Option.bind_some, e3, Option.bind_some, e4, Option.bind_some, if_pos rfl, if_pos rfl, if_pos rfl, bne_self_eq_false, tipstafflaw08_ProfileRides.j0, if_neg (by decide)]
  rw [e5, Option.bind_some, e6, Option.bind_some, e7, Option.bind_some, e8, Option.bind_some, same_self _ (by omega) (by omega), Option.bind_some, if_pos rfl, if_pos rfl, if_pos rfl, if_pos rfl, if_pos rfl, awake_val _ (by omega)]; rfl

end Go.Proofs.Ytgjcpocncpeibaa.Pure
