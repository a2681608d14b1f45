/- The speeds of a ride begin and end at 1, differ by at most 1, are never 0, and are together its distance: for all numbers. -/
import Derived.Test.YtgjcpocncpeibaaS9
import Derived.Test.YtgjcpocncpeibaaVals
namespace Go.Proofs.Ytgjcpocncpeibaa.Pure
open Go.RowKit Go.Proofs.Ytgjcpocncpeibaa.S Go.Proofs.YtgjcpocncpeibaaW.PrintWords Go.Proofs.YtgjcpocncpeibaaW.PrintLast
set_option linter.unusedVariables false
set_option linter.unusedSimpArgs false

theorem shapes_loop (L n : Nat) (hL' : L ≤ 20) (xs : List Int) (hx : xs.length ≤ 1000) : ∀ (v left : Nat) (ys : List Int), Shape L v left ys → ∀ (i k s : Nat), xs.drop i = ys → i ≤ xs.length → s + left = n → v ≤ L → n ≤ 63000 → xs.length - i + 100 < k →
    tipstafflaw08_ProfileShapes.l0 k (L : Int) (n : Int) xs (s : Int) (v : Int) (i : Int) = some true := by
  intro v left ys h
  induction h with
  | done v hv =>
    intro i k s hd hi hs hvl hn hk
    obtain ⟨k, rfl, hk'⟩ := succ_of hk
    have : xs.length ≤ i := List.drop_eq_nil_iff.1 hd
    rw [tipstafflaw08_ProfileShapes.l0, if_neg (by omega), if_pos (by omega), if_pos (by omega), awake_val _ (by omega)]; rfl
  | step v left v' ys g h ih =>
    intro i k s hd hi hs hvl hn hk
    have hlt : i < xs.length := by
      rcases Nat.lt_or_ge i xs.length with h | h
      · exact h
      · rw [List.drop_eq_nil_of_le h] at hd; cases hd
    obtain ⟨k, rfl, hk'⟩ := succ_of hk
    rw [drop_rd xs i hlt] at hd
    injection hd with hd1 hd2
    have h1 := g.near
    have h2 := g.lim
    have h3 := g.pos
    have h4 := g.tri
    have ht : v' ≤ triT v' := by
      obtain ⟨m, rfl⟩ : ∃ m, v' = m + 1 := ⟨v' - 1, by omega⟩
      rw [triT]; omega
    rw [tipstafflaw08_ProfileShapes.l0, if_pos (by omega), if_pos (by omega), hd1, if_neg (by omega), if_neg (by omega), wrap_id ((v : Int) + 1) (by omega) (by omega), if_neg (by omega), wrap_id ((v : Int) - 1) (by omega) (by omega), if_neg (by omega), wrap_id ((s : Int) + _) (by omega) (by omega), wrap_succ i (by omega)]
    have := ih (i + 1) k (s + v') hd2 (by omega) (by omega) h2 hn (by omega)
    rw [show ((s : Int) + (v' : Int)) = ((s + v' : Nat) : Int) by omega]
    exact this

theorem ride_short (n L : Nat) (hL : 1 ≤ L) (hL' : L ≤ 20) (hn : n < 3000) (hn2 : n < 900 * L) : n ≤ D L 0 1000 := by
  have h4 := D_limit 4 L
  by_cases h : L = 1
  · subst h
    have : 899 ≤ D 1 0 1000 := by decide +kernel
    omega
  · by_cases h : L = 2
    · subst h
      have : 1799 ≤ D 2 0 1000 := by decide +kernel
      omega
    · by_cases h : L = 3
      · subst h
        have : 2699 ≤ D 3 0 1000 := by decide +kernel
        omega
      · have h1 := D_limit 4 L (by omega) 1000 0 0 (Nat.le_refl _)
        have : 2999 ≤ D 4 0 1000 := by decide +kernel
        omega

theorem ProfileShapes : tipstafflaw08_ProfileShapes.Pure := by
  intro a0 a1 w0 w1
  obtain ⟨y, hy, hy'⟩ := mod_nat a1 20 (by omega)
  obtain ⟨K, hK⟩ : ∃ K : Nat, K = 63100 := ⟨_, rfl⟩
  refine ⟨K + 1, ?_⟩
  unfold tipstafflaw08_ProfileShapes.f
  rw [mod_val a1 20 (i64_of w1) (by omega) (by omega), show a1 % 20 = (y : Int) from hy]
  rw [Option.bind_some]
  rw [wrap_id (1 + (y : Int)) (by omega) (by omega), show (1 + (y : Int)) = ((1 + y : Nat) : Int) by omega]
  obtain ⟨L, hL⟩ : ∃ L, L = 1 + y := ⟨_, rfl⟩
  rw [← hL, wrap_id (900 * (L : Int)) (by omega) (by omega)]
  have em : mn 3000 (900 * (L : Int)) = ((min 3000 (900 * L) : Nat) : Int) := by unfold mn; split <;> omega
  obtain ⟨n, hn, hn'⟩ := mod_nat a0 (min 3000 (900 * L)) (by omega)
  rw [em, mod_val a0 _ (i64_of w0) (by omega) (by omega), hn]
  rw [Option.bind_some]
  obtain ⟨h1, h2, h3, h4⟩ := rideX_spec n L (by omega) (by omega) (by omega)
  have hlen : (rideX n L).length ≤ 1000 := (h3 1000).2 (ride_short n L (by omega) (by omega) (by omega) (by omega))
  rw [speeds_val n L _ (by omega) (by omega) (by omega) (by omega), if_neg (by omega), trav n L _ (by omega) (by omega) (by omega) (by omega)]
  simp only [Option.bind_some, if_true]
  rw [gone_val n L _ _ (by omega) (by omega) (by omega) (by omega) (by omega) (by omega)]
  simp only [Option.bind_some, if_true]
  have hg : goneV (rideX n L) (n : Int) ((rideX n L).length : Int) = ((n : Int), 0) := by
    unfold goneV
    rw [Int.toNat_natCast, List.take_length, sumW_ride n L (by omega) (by omega) (by omega), if_pos rfl]
  rw [hg]
  simp only [if_true]
  rw [show ((0 : Int) != 0) = false from rfl, tipstafflaw08_ProfileShapes.j0, if_neg (by decide)]
  have e0 : ((0 : Nat) : Int) = 0 := rfl
  have := shapes_loop L n (by omega) (rideX n L) hlen 0 n (rideX n L) h2 0 K 0 (by simp) (by omega) (by omega) (by omega) (by omega) (by omega)
  rw [e0] at this
  exact this

end Go.Proofs.Ytgjcpocncpeibaa.Pure
