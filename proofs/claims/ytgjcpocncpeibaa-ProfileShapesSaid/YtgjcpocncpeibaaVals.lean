/- What the program's functions on rides come to. -/
import Derived.Test.YtgjcpocncpeibaaS2
import Derived.Test.YtgjcpocncpeibaaS1
import Derived.Test.YtgjcpocncpeibaaS10
import Derived.Test.YtgjcpocncpeibaaS4
import Derived.Test.YtgjcpocncpeibaaS3
import Derived.Test.YtgjcpocncpeibaaMath
import Derived.Test.YtgjcpocncpeibaaKit
import Derived.Test.YtgjcpocncpeibaaHgone
import Derived.Test.YtgjcpocncpeibaaHreach
namespace Go.Proofs.Ytgjcpocncpeibaa.Pure
open Go.RowKit Go.Proofs.Ytgjcpocncpeibaa.S Go.Proofs.YtgjcpocncpeibaaW.PrintWords Go.Proofs.YtgjcpocncpeibaaW.PrintLast
set_option linter.unusedVariables false
set_option linter.unusedSimpArgs false

theorem limits_val (a b : Int) : profile_limits.f a b = some (decide (0 ≤ a ∧ a ≤ 63000 ∧ 1 ≤ b ∧ b ≤ 20)) := by
  unfold profile_limits.f
  by_cases h1 : a ≥ 0
  · by_cases h2 : a ≤ 63000
    · by_cases h3 : b ≥ 1
      · simp [h1, h2, h3]
      · simp [h1, h2, h3]
    · simp [h1, h2]
  · simp [h1]

theorem ticksOf_acc (xs : List Int) : ∀ t : Int, 0 ≤ t → t + xs.length ≤ 4611686018427387904 → xs.foldl (fun t _ => wrap64 (t + 1)) t = t + xs.length := by
  induction xs with
  | nil => intro t _ _; simp
  | cons x xs ih =>
    intro t h0 h1
    simp only [List.length_cons] at h1
    rw [List.foldl_cons, wrap_id (t + 1) (by omega) (by omega), ih (t + 1) (by omega) (by omega)]
    simp; omega
theorem ticksOf_len (xs : List Int) (h : xs.length ≤ 4611686018427387904) : ticksOf xs = xs.length := by
  unfold ticksOf
  rw [ticksOf_acc xs 0 (by omega) (by omega)]; omega

theorem travel_val (n L k : Nat) (hL : 1 ≤ L) (hL' : L ≤ 20) (hn : n ≤ 63000) (hk : n < k) : profile_travel.f k (n : Int) (L : Int) = some (((rideX n L).length : Int), peakOf (rideX n L)) := by
  obtain ⟨h1, _, _, h4⟩ := rideX_spec n L hL hL' hn
  unfold profile_travel.f
  rw [h1 k hk, Option.map_some, ticksOf_len _ (by omega)]

theorem trav (n L k : Nat) (hL : 1 ≤ L) (hL' : L ≤ 20) (hn : n ≤ 63000) (hk : n < k) : profile_Travel.f k (n : Int) (L : Int) = some (((rideX n L).length : Int), 0) := by
  unfold profile_Travel.f
  rw [limits_val, decide_eq_true (by omega)]
  simp only [Option.bind_some, if_true]
  rw [travel_val n L k hL hL' hn hk]; rfl

theorem awake_val : ∀ k, 100 ≤ k → tipstafflaw08_awake.f k = some true := fun _ hk => at_rounds tipstafflaw08_awake.mono hk (by decide +kernel)

theorem shape_sum {L v left : Nat} {xs : List Int} (h : Shape L v left xs) : ∀ (s : Int), 0 ≤ s → s + left ≤ 4611686018427387904 → xs.foldl (fun s v => wrap64 (s + v)) s = s + left := by
  induction h with
  | done v hv => intro s _ _; simp
  | step v left v' xs g h ih =>
    intro s h0 h1
    have := g.tri
    have hp := g.pos
    have ht : v' ≤ triT v' := by
      obtain ⟨m, rfl⟩ : ∃ m, v' = m + 1 := ⟨v' - 1, by omega⟩
      rw [triT]; omega
    rw [List.foldl_cons, wrap_id (s + (v' : Int)) (by omega) (by omega), ih _ (by omega) (by omega)]
    omega
theorem sumW_ride (n L : Nat) (hL : 1 ≤ L) (hL' : L ≤ 20) (hn : n ≤ 63000) : sumW (rideX n L) = n := by
  obtain ⟨_, h2, _, _⟩ := rideX_spec n L hL hL' hn
  unfold sumW
  rw [shape_sum h2 0 (by omega) (by omega)]; omega

theorem speeds_val (n L k : Nat) (hL : 1 ≤ L) (hL' : L ≤ 20) (hn : n ≤ 63000) (hk : n < k) : profile_Speeds.f k (n : Int) (L : Int) = some (if (rideX n L).length > 1000 then ([], 4) else (rideX n L, 0)) := by
  obtain ⟨h1, _, _, _⟩ := rideX_spec n L hL hL' hn
  unfold profile_Speeds.f
  rw [limits_val, decide_eq_true (by omega)]
  simp only [Option.bind_some, if_true]
  rw [h1 k hk]; rfl

theorem gone_val (n L k : Nat) (t : Int) (hL : 1 ≤ L) (hL' : L ≤ 20) (hn : n ≤ 63000) (hk : n < k) (ht : 0 ≤ t) (ht' : t ≤ 9223372036854775807) :
    profile_Gone.f k (n : Int) (L : Int) t = some ((goneV (rideX n L) n t).1, (goneV (rideX n L) n t).2, 0) := by
  obtain ⟨h1, _, _, _⟩ := rideX_spec n L hL hL' hn
  unfold profile_Gone.f
  rw [limits_val, decide_eq_true (by omega)]
  simp only [Option.bind_some, if_true]
  rw [if_neg (by omega), if_pos ht', h1 k hk]; rfl

/-- The search finds the first place above a threshold. -/
theorem search_val (q : Int → Option Bool) (c : Int) (N : Int) (hq : ∀ i, 0 ≤ i → i < N → q i = some (decide (c < i))) : ∀ (d k : Nat) (i j : Int), 0 ≤ i → i ≤ j → j ≤ N → j - i = d → d < k → i ≤ c + 1 → (c < j ∨ j = N) →
    searchF q k i j = some (if c + 1 ≤ j then c + 1 else j) := by
  intro d
  induction d using Nat.strongRecOn with
  | _ d ih =>
    intro k i j h0 h1 h2 h3 hk h4 h5
    obtain ⟨k, rfl, hk'⟩ := succ_of hk
    rw [searchF]
    by_cases hlt : i < j
    · rw [if_pos hlt, hq _ (by omega) (by omega)]
      simp only [Option.bind_some]
      by_cases hc : c < (i + j) / 2
      · rw [if_pos (by simpa using hc), ih ((i + j) / 2 - i).toNat (by omega) k i ((i + j) / 2) h0 (by omega) (by omega) (by omega) (by omega) h4 (.inl hc)]
        rw [if_pos (by omega), if_pos (by omega)]
      · rw [if_neg (by simpa using hc), ih (j - ((i + j) / 2 + 1)).toNat (by omega) k ((i + j) / 2 + 1) j (by omega) (by omega) h2 (by omega) (by omega) (by omega) h5]
    · rw [if_neg hlt]
      have : i = j := by omega
      subst this
      split <;> first | rfl | (congr 1; omega)

theorem longer_val (n L k : Nat) (t : Nat) (hL : 1 ≤ L) (hL' : L ≤ 20) (hn : n ≤ 63000) (hk : n < k) : longer k (t : Int) (L : Int) (n : Int) = some (decide ((D L 0 t : Int) < (n : Int))) := by
  obtain ⟨_, _, h3, _⟩ := rideX_spec n L hL hL' hn
  unfold longer
  rw [travel_val n L k hL hL' hn hk, Option.map_some]
  have := h3 t
  congr 1
  rw [decide_eq_decide]
  omega

/-- How far a car gets in so many ticks. -/
def far (t L : Nat) : Int := if (D L 0 t : Int) ≤ 63000 then (D L 0 t : Int) else 63000
theorem reach_val (t L k : Nat) (hL : 1 ≤ L) (hL' : L ≤ 20) (ht : t ≤ 63000) (hk : 63010 ≤ k) : profile_Reach.f k (t : Int) (L : Int) = some (far t L, 0) := by
  unfold profile_Reach.f
  rw [limits_val, decide_eq_true (by omega)]
  simp only [Option.bind_some, if_true]
  have hq : ∀ i : Int, 0 ≤ i → i < 63001 → longer k (t : Int) (L : Int) i = some (decide ((D L 0 t : Int) < i)) := fun i h0 h1 => by
    obtain ⟨n, rfl⟩ := Int.eq_ofNat_of_zero_le h0
    exact longer_val n L k t hL hL' (by omega) (by omega)
  rw [search_val (longer k (t : Int) (L : Int)) (D L 0 t : Int) 63001 hq 63001 k 0 63001 (by omega) (by omega) (by omega) (by omega) (by omega) (by omega) (.inr rfl)]
  simp only [Option.map_some]
  unfold far
  congr 2
  split
  · rw [wrap_id _ (by omega) (by omega), if_pos (by omega)]; omega
  · rw [wrap_id _ (by omega) (by omega), if_neg (by omega)]; omega

theorem D_le (L : Nat) : ∀ k u, D L u k ≤ L * k
  | 0, _ => by simp [D]
  | k + 1, u => by
    rw [D, Nat.mul_add]
    have := D_le L k (min (min (u + 1) (k + 1)) L)
    omega

theorem mod_nat (a : Int) (m : Nat) (hm : 1 ≤ m) : ∃ r : Nat, a % (m : Int) = r ∧ r < m :=
  ⟨(a % m).toNat, by have := Int.emod_nonneg a (show (m : Int) ≠ 0 by omega); omega, by have := Int.emod_lt_of_pos a (show (0 : Int) < m by omega); omega⟩

end Go.Proofs.Ytgjcpocncpeibaa.Pure
