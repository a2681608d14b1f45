/- The plain law of rides: what the greedy next speed comes to, in ticks and in distance. -/
import Derived.Test.YtgjcpocncpeibaaHride
import Derived.Test.YtgjcpocncpeibaaNums
namespace Go.Proofs.Ytgjcpocncpeibaa.Pure
open Go.RowKit Go.Proofs.Ytgjcpocncpeibaa.S Go.Proofs.YtgjcpocncpeibaaW.PrintWords Go.Proofs.YtgjcpocncpeibaaW.PrintLast
set_option linter.unusedVariables false
set_option linter.unusedSimpArgs false

def triT : Nat → Nat
  | 0 => 0
  | n + 1 => triT n + (n + 1)
theorem triT_two (n : Nat) : 2 * triT n = n * (n + 1) := by
  induction n with
  | zero => rfl
  | succ n ih => rw [triT, Nat.mul_add, ih, Nat.add_mul n 1 (n + 1 + 1), Nat.mul_add n (n + 1) 1]; omega
theorem triT_le {a b : Nat} (h : a ≤ b) : triT a ≤ triT b := by
  induction h with
  | refl => exact Nat.le_refl _
  | step _ ih => rw [triT]; omega
theorem triT_21 {n : Nat} (h : n ≤ 21) : triT n ≤ 231 := Nat.le_trans (triT_le h) (by decide)

theorem tri_eq (n : Nat) (h : n ≤ 21) : wrap64 (Int.tdiv (wrap64 ((n : Int) * (wrap64 ((n : Int) + 1)))) 2) = triT n := by
  have h2 := triT_two n
  have h3 := triT_21 h
  rw [wrap_id ((n : Int) + 1) (by omega) (by omega)]
  have e : (n : Int) * ((n : Int) + 1) = ((2 * triT n : Nat) : Int) := by rw [h2]; simp
  rw [e, wrap_id ((2 * triT n : Nat) : Int) (by omega) (by omega), Int.tdiv_eq_ediv_of_nonneg (by omega), wrap_id _ (by omega) (by omega)]
  omega

theorem may_nat (n : Nat) (h : n ≤ 21) (left lim : Int) : may (n : Int) left lim = decide ((n : Int) ≤ lim ∧ (triT n : Int) ≤ left) := by
  unfold may
  rw [tri_eq n h]
  by_cases h1 : (n : Int) ≤ lim <;> by_cases h2 : (triT n : Int) ≤ left <;> simp [h1, h2]
theorem may_neg (v left lim : Int) (h : v < 0) : may v left lim = false := by
  unfold may
  have : ¬ 0 ≤ v := by omega
  simp [this]

/-- The greatest way in k ticks from the speed v on, the last speed being 1 at most. -/
def D (L : Nat) : Nat → Nat → Nat
  | _, 0 => 0
  | v, k + 1 => min (min (v + 1) (k + 1)) L + D L (min (min (v + 1) (k + 1)) L) k
/-- The same, term by term. -/
def S (L : Nat) : Nat → Nat → Nat
  | _, 0 => 0
  | v, k + 1 => min (min (v + 1) (k + 1)) L + S L (v + 1) k

theorem D_mono (L : Nat) : ∀ k u v, u ≤ v → D L u k ≤ D L v k
  | 0, _, _, _ => Nat.le_refl _
  | k + 1, u, v, h => by
    rw [D, D]
    have h1 : min (min (u + 1) (k + 1)) L ≤ min (min (v + 1) (k + 1)) L := by omega
    have := D_mono L k _ _ h1
    omega
theorem D_tri_le (L : Nat) : ∀ k u, D L u k ≤ triT k
  | 0, _ => Nat.le_refl _
  | k + 1, u => by
    rw [D, triT]
    have := D_tri_le L k (min (min (u + 1) (k + 1)) L)
    omega
theorem D_tri_ge (L : Nat) : ∀ k u, min u k ≤ L → triT (min u k) ≤ D L u k
  | 0, u, _ => by simp [triT]
  | k + 1, u, h => by
    rw [D]
    have ih := D_tri_ge L k (min (min (u + 1) (k + 1)) L) (by omega)
    by_cases hu : k + 1 ≤ u
    · have e1 : min u (k + 1) = k + 1 := by omega
      have e2 : min (min (u + 1) (k + 1)) L = k + 1 := by omega
      rw [e1, triT]
      rw [e2] at ih ⊢
      have e3 : min (k + 1) k = k := by omega
      rw [e3] at ih
      omega
    · have e1 : min u (k + 1) = u := by omega
      rw [e1]
      have e2 : u ≤ min (min (min (u + 1) (k + 1)) L) k := by omega
      have := triT_le e2
      omega
theorem D_step (L : Nat) (v k : Nat) : D L v (k + 1) = min (min (v + 1) (k + 1)) L + D L (min (min (v + 1) (k + 1)) L) k := rfl
theorem S_le_D (L : Nat) : ∀ k u c, min (min u (k + 1)) L ≤ c → S L u k ≤ D L c k
  | 0, _, _, _ => Nat.le_refl _
  | k + 1, u, c, h => by
    rw [S, D]
    have := S_le_D L k (u + 1) (min (min (c + 1) (k + 1)) L) (by omega)
    omega
theorem D_limit (L L' : Nat) (h : L ≤ L') : ∀ k u v, u ≤ v → D L u k ≤ D L' v k
  | 0, _, _, _ => Nat.le_refl _
  | k + 1, u, v, hu => by
    rw [D, D]
    have := D_limit L L' h k (min (min (u + 1) (k + 1)) L) (min (min (v + 1) (k + 1)) L') (by omega)
    omega

/-- What one step of the greedy ride takes: v is the speed before, v' the next one. -/
structure Greedy (L v left v' : Nat) : Prop where
  next : profile_next.v (v : Int) (left : Int) (L : Int) = ((v' : Int), true)
  near : v' ≤ v + 1 ∧ v ≤ v' + 1
  lim : v' ≤ L
  tri : triT v' ≤ left
  most : v' < v + 1 → v' < L → left < triT (v' + 1)
  pos : 1 ≤ v'

theorem greedy_next (L v left : Nat) (hL : 1 ≤ L) (hL' : L ≤ 20) (hv : v ≤ L) (hl : 1 ≤ left) (hi : triT (v - 1) ≤ left) :
    ∃ v' : Nat, Greedy L v left v' := by
  have e1 : wrap64 ((v : Int) + 1) = ((v + 1 : Nat) : Int) := by rw [wrap_id _ (by omega) (by omega)]; omega
  have e0 : profile_next.v (v : Int) (left : Int) (L : Int) = if decide (((v + 1 : Nat) : Int) ≤ (L : Int) ∧ (triT (v + 1) : Int) ≤ (left : Int)) = true then (((v + 1 : Nat) : Int), true) else if decide ((v : Int) ≤ (L : Int) ∧ (triT v : Int) ≤ (left : Int)) = true then ((v : Int), true) else if may (wrap64 ((v : Int) - 1)) left L = true then (wrap64 ((v : Int) - 1), true) else (wrap64 ((v : Int) - 1), false) := by
    unfold profile_next.v
    rw [e1, may_nat (v + 1) (by omega), may_nat v (by omega)]
  by_cases h1 : v + 1 ≤ L ∧ triT (v + 1) ≤ left
  · rw [if_pos (by simp; omega)] at e0
    exact ⟨v + 1, ⟨e0, by omega, h1.1, h1.2, fun h => by omega, by omega⟩⟩
  · rw [if_neg (by simp; omega)] at e0
    by_cases h2 : triT v ≤ left
    · rw [if_pos (by simp; omega)] at e0
      have hp : 1 ≤ v := by
        rcases Nat.eq_zero_or_pos v with h | h
        · subst h
          exfalso
          refine h1 ⟨by omega, ?_⟩
          show triT 0 + 1 ≤ left
          simp [triT]; omega
        · exact h
      refine ⟨v, ⟨e0, by omega, hv, h2, fun _ hlt => ?_, hp⟩⟩
      rcases Nat.lt_or_ge left (triT (v + 1)) with h | h
      · exact h
      · exact absurd ⟨by omega, h⟩ h1
    · rw [if_neg (by simp; omega)] at e0
      have hp : 2 ≤ v := by
        rcases Nat.lt_or_ge v 2 with h | h
        · exfalso
          have : triT v ≤ triT 1 := triT_le (by omega)
          have : triT 1 = 1 := rfl
          omega
        · exact h
      have e2 : wrap64 ((v : Int) - 1) = ((v - 1 : Nat) : Int) := by rw [wrap_id _ (by omega) (by omega)]; omega
      have h3 : may (wrap64 ((v : Int) - 1)) left L = true := by rw [e2, may_nat _ (by omega)]; simp; omega
      rw [if_pos h3, e2] at e0
      refine ⟨v - 1, ⟨e0, by omega, by omega, hi, fun _ _ => ?_, by omega⟩⟩
      rw [show v - 1 + 1 = v by omega]
      omega

/-- The step on the greatest ways: so many ticks are enough for what is left, exactly if one more is before. -/
theorem greedy_ticks {L v left v' : Nat} (g : Greedy L v left v') (k : Nat) : left - v' ≤ D L v' k ↔ left ≤ D L v (k + 1) := by
  obtain ⟨_, ⟨g1, g2⟩, g3, g4, g5, g6⟩ := g
  have hvt : v' + triT (v' - 1) = triT v' := by
    obtain ⟨m, rfl⟩ : ∃ m, v' = m + 1 := ⟨v' - 1, by omega⟩
    rw [triT]; simp; omega
  rw [D_step]
  constructor
  · intro h
    by_cases hk : v' ≤ k + 1
    · have hc : v' ≤ min (min (v + 1) (k + 1)) L := by omega
      have := D_mono L k _ _ hc
      omega
    · exfalso
      have h1 := D_tri_le L k v'
      have h2 : triT (k + 1) ≤ triT (v' - 1) := triT_le (by omega)
      rw [triT] at h2
      omega
  · intro h
    by_cases hc : min (min (v + 1) (k + 1)) L ≤ v'
    · have := D_mono L k _ _ hc
      omega
    · have h1 := g5 (by omega) (by omega)
      have h2 := D_tri_ge L k v' (by omega)
      rw [show min v' k = v' by omega] at h2
      rw [triT] at h1
      omega

/-- The speeds of a ride from the speed v on: each is 1 at least and the limit at most, neighbours differ by 1 at most, the last one is 1, together they are the distance. -/
inductive Shape (L : Nat) : Nat → Nat → List Int → Prop
  | done (v : Nat) (h : v ≤ 1) : Shape L v 0 []
  | step (v left v' : Nat) (xs : List Int) (g : Greedy L v left v') (h : Shape L v' (left - v') xs) : Shape L v left ((v' : Int) :: xs)

theorem ride_main (L : Nat) (hL : 1 ≤ L) (hL' : L ≤ 20) : ∀ (left v : Nat), v ≤ L → triT (v - 1) ≤ left → left ≤ 63000 →
    ∃ xs, (∀ k, left < k → rideL k (v : Int) (left : Int) (L : Int) = some xs) ∧ Shape L v left xs ∧ (∀ m, xs.length ≤ m ↔ left ≤ D L v m) ∧ xs.length ≤ left := by
  intro left
  induction left using Nat.strongRecOn with
  | _ left ih =>
    intro v hv hi hm
    rcases Nat.eq_zero_or_pos left with h0 | h0
    · subst h0
      have hv1 : v ≤ 1 := by
        rcases Nat.lt_or_ge 1 v with h | h
        · have : triT 1 ≤ triT (v - 1) := triT_le (by omega)
          have : triT 1 = 1 := rfl
          omega
        · exact h
      refine ⟨[], fun k hk => ?_, .done v hv1, fun m => by simp, by simp⟩
      obtain ⟨k, rfl, _⟩ := succ_of hk
      rw [rideL, if_neg (by omega)]
    · obtain ⟨v', g⟩ := greedy_next L v left hL hL' hv h0 hi
      have hvt : v' + triT (v' - 1) = triT v' := by
        have := g.pos
        obtain ⟨m, rfl⟩ : ∃ m, v' = m + 1 := ⟨v' - 1, by omega⟩
        rw [triT]; simp; omega
      have hgt := g.tri
      have hgp := g.pos
      obtain ⟨xs, h1, h2, h3, h4⟩ := ih (left - v') (by omega) v' g.lim (by omega) (by omega)
      refine ⟨(v' : Int) :: xs, fun k hk => ?_, .step v left v' xs g h2, fun m => ?_, by simp; omega⟩
      · obtain ⟨k, rfl, hk'⟩ := succ_of hk
        rw [rideL, if_pos (by omega), g.next, wrap_id _ (by omega) (by omega)]
        rw [show (left : Int) - (v' : Int) = ((left - v' : Nat) : Int) by omega, h1 k (by omega)]
        rfl
      · cases m with
        | zero => simp [D]; omega
        | succ m =>
          rw [← greedy_ticks g m, ← h3 m]; simp

/-- The speeds of the ride over n with the limit L. -/
def rideX (n L : Nat) : List Int := (rideL (n + 1) 0 (n : Int) (L : Int)).getD []
theorem rideX_spec (n L : Nat) (hL : 1 ≤ L) (hL' : L ≤ 20) (hn : n ≤ 63000) : (∀ k, n < k → rideL k 0 (n : Int) (L : Int) = some (rideX n L)) ∧ Shape L 0 n (rideX n L) ∧ (∀ m, (rideX n L).length ≤ m ↔ n ≤ D L 0 m) ∧ (rideX n L).length ≤ n := by
  obtain ⟨xs, h1, h2, h3, h4⟩ := ride_main L hL hL' n 0 (by omega) (by simp [triT]) hn
  have e : rideX n L = xs := by
    have h5 := h1 (n + 1) (by omega)
    unfold rideX
    rw [show ((0 : Nat) : Int) = 0 from rfl] at h5
    rw [h5]; rfl
  rw [e]
  exact ⟨h1, h2, h3, h4⟩

end Go.Proofs.Ytgjcpocncpeibaa.Pure
