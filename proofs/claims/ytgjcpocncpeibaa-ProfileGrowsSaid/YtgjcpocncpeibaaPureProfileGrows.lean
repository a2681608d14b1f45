/- A ride never becomes shorter when the distance grows, nor longer when the limit does, and Reach and Travel agree: for all numbers. -/
import Derived.Test.YtgjcpocncpeibaaS16
import Derived.Test.YtgjcpocncpeibaaVals
namespace Go.Proofs.Ytgjcpocncpeibaa.Pure
open Go.RowKit Go.Proofs.Ytgjcpocncpeibaa.S Go.Proofs.YtgjcpocncpeibaaW.PrintWords Go.Proofs.YtgjcpocncpeibaaW.PrintLast
set_option linter.unusedVariables false
set_option linter.unusedSimpArgs false

theorem ProfileGrows : tipstafflaw08_ProfileGrows.Pure := by
  intro a0 a1 a2 w0 w1 w2
  obtain ⟨n, hn, hn'⟩ := mod_nat a0 3000 (by omega)
  obtain ⟨y, hy, hy'⟩ := mod_nat a1 20 (by omega)
  obtain ⟨t, ht, ht'⟩ := mod_nat a2 400 (by omega)
  obtain ⟨K, hK⟩ : ∃ K : Nat, K = 63100 := ⟨_, rfl⟩
  refine ⟨K + 1 + 1 + 1, ?_⟩
  unfold tipstafflaw08_ProfileGrows.f
  rw [mod_val a0 3000 (i64_of w0) (by omega) (by omega), show a0 % 3000 = (n : Int) from hn]
  simp only [Option.bind_some]
  rw [mod_val a1 20 (i64_of w1) (by omega) (by omega), show a1 % 20 = (y : Int) from hy]
  simp only [Option.bind_some]
  rw [wrap_id (1 + (y : Int)) (by omega) (by omega), wrap_id ((n : Int) + 1) (by omega) (by omega)]
  rw [show (1 + (y : Int)) = ((1 + y : Nat) : Int) by omega, show ((n : Int) + 1) = ((n + 1 : Nat) : Int) by omega]
  obtain ⟨L, hL⟩ : ∃ L, L = 1 + y := ⟨_, rfl⟩
  rw [← hL]
  rw [trav n L _ (by omega) (by omega) (by omega) (by omega), trav (n + 1) L _ (by omega) (by omega) (by omega) (by omega)]
  simp only [Option.bind_some, if_true]
  obtain ⟨_, _, h3, _⟩ := rideX_spec n L (by omega) (by omega) (by omega)
  obtain ⟨_, _, k3, _⟩ := rideX_spec (n + 1) L (by omega) (by omega) (by omega)
  have hmono : (rideX n L).length ≤ (rideX (n + 1) L).length := by
    have := (k3 (rideX (n + 1) L).length).1 (Nat.le_refl _)
    exact (h3 _).2 (by omega)
  have hj1 : ∀ K, 63100 ≤ K → tipstafflaw08_ProfileGrows.j1 (K + 1) a2 (L : Int) = some true := by
    intro K hK
    rw [tipstafflaw08_ProfileGrows.j1, mod_val a2 400 (i64_of w2) (by omega) (by omega), show a2 % 400 = (t : Int) from ht]
    simp only [Option.bind_some]
    rw [reach_val t L _ (by omega) (by omega) (by omega) (by omega)]
    simp only [Option.bind_some, if_true]
    have hD := D_le L t 0
    have hD2 : L * t ≤ 20 * t := Nat.mul_le_mul_right _ (by omega)
    have hfar : far t L = ((D L 0 t : Nat) : Int) := by unfold far; rw [if_pos (by omega)]
    rw [hfar, if_neg (by omega), decide_eq_false (by omega)]
    obtain ⟨K', hK'⟩ : ∃ K', K = K' + 1 := ⟨K - 1, by omega⟩
    rw [hK', tipstafflaw08_ProfileGrows.j2, if_neg (by decide), wrap_id _ (by omega) (by omega), show (((D L 0 t : Nat) : Int) + 1) = ((D L 0 t + 1 : Nat) : Int) by omega]
    rw [trav (D L 0 t) L _ (by omega) (by omega) (by omega) (by omega), trav (D L 0 t + 1) L _ (by omega) (by omega) (by omega) (by omega)]
    simp only [Option.bind_some, if_true]
    obtain ⟨_, _, u3, _⟩ := rideX_spec (D L 0 t) L (by omega) (by omega) (by omega)
    obtain ⟨_, _, v3, _⟩ := rideX_spec (D L 0 t + 1) L (by omega) (by omega) (by omega)
    have hu := (u3 t).2 (Nat.le_refl _)
    have hv : ¬ (rideX (D L 0 t + 1) L).length ≤ t := fun h => by have := (v3 t).1 h; omega
    rw [if_pos (by omega), if_pos (by omega), awake_val _ (by omega)]; rfl
  rw [decide_eq_false (by omega), tipstafflaw08_ProfileGrows.j0, if_neg (by decide)]
  by_cases h20 : (L : Int) < 20
  · rw [if_pos h20, wrap_id _ (by omega) (by omega), show ((L : Int) + 1) = ((L + 1 : Nat) : Int) by omega, trav n (L + 1) _ (by omega) (by omega) (by omega) (by omega)]
    simp only [Option.bind_some, if_true]
    obtain ⟨_, _, u3, _⟩ := rideX_spec n (L + 1) (by omega) (by omega) (by omega)
    have hle : (rideX n (L + 1)).length ≤ (rideX n L).length := by
      refine (u3 _).2 ?_
      have h1 := (h3 _).1 (Nat.le_refl _)
      have h2 := D_limit L (L + 1) (by omega) (rideX n L).length 0 0 (Nat.le_refl _)
      omega
    rw [if_neg (by omega)]
    exact hj1 (K + 1) (by omega)
  · rw [if_neg h20]
    exact hj1 (K + 1) (by omega)

end Go.Proofs.Ytgjcpocncpeibaa.Pure
