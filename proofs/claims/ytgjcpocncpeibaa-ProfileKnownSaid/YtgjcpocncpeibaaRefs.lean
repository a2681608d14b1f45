/- What the specification's functions on rides come to. -/
import Derived.Test.YtgjcpocncpeibaaS7
import Derived.Test.YtgjcpocncpeibaaS10
import Derived.Test.YtgjcpocncpeibaaS11
import Derived.Test.YtgjcpocncpeibaaS12
import Derived.Test.YtgjcpocncpeibaaS14
import Derived.Test.YtgjcpocncpeibaaS2
import Derived.Test.YtgjcpocncpeibaaS5
import Derived.Test.YtgjcpocncpeibaaS6
import Derived.Test.YtgjcpocncpeibaaVals
namespace Go.Proofs.Ytgjcpocncpeibaa.Pure
open Go.RowKit Go.Proofs.Ytgjcpocncpeibaa.S Go.Proofs.YtgjcpocncpeibaaW.PrintWords Go.Proofs.YtgjcpocncpeibaaW.PrintLast
set_option linter.unusedVariables false
set_option linter.unusedSimpArgs false

theorem asks_val (a b : Int) : tipstaffref08_asks.f a b = some (if 0 ≤ a ∧ a ≤ 63000 ∧ 1 ≤ b ∧ b ≤ 20 then 0 else 2) := by
  unfold tipstaffref08_asks.f
  (repeat' split) <;> first | rfl | (exfalso; omega)

theorem next_round (k : Nat) (x0 x1 x2 c : Int) : tipstaffref08_next.l0 (k + 1) x0 x1 x2 c = if c ≥ wrap64 (x0 - 1) then (if may c x1 x2 = true then some c else tipstaffref08_next.l0 k x0 x1 x2 (wrap64 (c - 1))) else some (-1) := by
  rw [tipstaffref08_next.l0]
  unfold may tipstaffref08_tri.f
  by_cases h1 : c ≥ 0
  · by_cases h2 : c ≤ x2
    · simp only [h1, h2, if_true, Option.bind_some, ge_iff_le, decide_true, Bool.true_and, decide_eq_true_eq]
    · simp [h1, h2]
  · simp [h1]

/-- The speed from three, or -1. -/
theorem next_ref (s : Nat) (left lim : Int) (hs : s ≤ 20) (k : Nat) (hk : 5 < k) : tipstaffref08_next.f k (s : Int) left lim = some (if (profile_next.v (s : Int) left lim).2 = true then (profile_next.v (s : Int) left lim).1 else -1) := by
  obtain ⟨k, rfl⟩ : ∃ m, k = m + 4 := ⟨k - 4, by omega⟩
  unfold tipstaffref08_next.f profile_next.v
  have e1 : wrap64 ((s : Int) + 1) = (s : Int) + 1 := wrap_id _ (by omega) (by omega)
  have e2 : wrap64 ((s : Int) - 1) = (s : Int) - 1 := wrap_id _ (by omega) (by omega)
  have e3 : wrap64 ((s : Int) + 1 - 1) = (s : Int) := by rw [wrap_id _ (by omega) (by omega)]; omega
  have e4 : wrap64 ((s : Int) - 1 - 1) = (s : Int) - 2 := by rw [wrap_id _ (by omega) (by omega)]; omega
  rw [next_round, e1, e2, if_pos (by omega), e3]
  by_cases h1 : may ((s : Int) + 1) left lim = true
  · simp only [h1, if_true]
  · simp only [h1, if_false, Bool.false_eq_true]
    rw [next_round, e2, if_pos (by omega)]
    by_cases h2 : may (s : Int) left lim = true
    · simp only [h2, if_true]
    · simp only [h2, if_false, Bool.false_eq_true]
      rw [next_round, e2, if_pos (by omega), e4]
      by_cases h3 : may ((s : Int) - 1) left lim = true
      · simp only [h3, if_true]
      · simp only [h3, if_false, Bool.false_eq_true]
        rw [next_round, e2, if_neg (by omega)]

theorem next_pos (s left lim : Int) (h : (profile_next.v s left lim).2 = true) : 0 ≤ (profile_next.v s left lim).1 := by
  have hm : ∀ v, may v left lim = true → 0 ≤ v := fun v hv => by
    unfold may at hv
    simp only [Bool.and_eq_true, decide_eq_true_eq] at hv
    exact hv.1
  unfold profile_next.v at h ⊢
  split at h
  · rw [if_pos ‹_›]; exact hm _ ‹_›
  · rw [if_neg ‹_›]
    split at h
    · rw [if_pos ‹_›]; exact hm _ ‹_›
    · rw [if_neg ‹_›]
      split at h
      · rw [if_pos ‹_›]; exact hm _ ‹_›
      · exact absurd h (by simp)

theorem greedy_ref {L v left v' : Nat} (g : Greedy L v left v') (hv : v ≤ 20) (k : Nat) (hk : 5 < k) : tipstaffref08_next.f k (v : Int) (left : Int) (L : Int) = some (v' : Int) := by
  rw [next_ref v _ _ hv k hk, g.next]; rfl

theorem greedy_left {L v left v' : Nat} (g : Greedy L v left v') : v' ≤ left := by
  have h1 := g.tri
  have h2 := g.pos
  obtain ⟨m, rfl⟩ : ∃ m, v' = m + 1 := ⟨v' - 1, by omega⟩
  rw [triT] at h1
  omega

theorem ride_ref_loop (L : Nat) (hL' : L ≤ 20) {v left : Nat} {ys : List Int} (h : Shape L v left ys) : ∀ (k : Nat) (c p : Int), v ≤ 20 → left ≤ 63000 → 0 ≤ c → c + ys.length ≤ 1000000 → ys.length + 10 < k →
    tipstaffref08_ride.l0 k (L : Int) c p (v : Int) (left : Int) = some (c + ys.length, ys.foldl (fun p v => mx p v) p) := by
  induction h with
  | done v hv =>
    intro k c p _ _ hc _ hk
    obtain ⟨k, rfl, _⟩ := succ_of hk
    rw [tipstaffref08_ride.l0, if_neg (by omega)]
    simp
  | step v left v' ys g h ih =>
    intro k c p h1 h2 hc h3 hk
    simp only [List.length_cons] at h3 hk
    obtain ⟨k, rfl, hk'⟩ := succ_of hk
    have hle := greedy_left g
    have := g.pos
    have := g.lim
    rw [tipstaffref08_ride.l0, if_pos (by omega), greedy_ref g h1 k (by omega)]
    rw [Option.bind_some, wrap_id (c + 1) (by omega) (by omega), wrap_id ((left : Int) - (v' : Int)) (by omega) (by omega)]
    have := ih k (c + 1) (mx p (v' : Int)) (by omega) (by omega) (by omega) (by omega) (by omega)
    rw [show ((left : Int) - (v' : Int)) = ((left - v' : Nat) : Int) by omega, this, List.foldl_cons]
    congr 2
    simp; omega

theorem ride_ref (n L k : Nat) (hL : 1 ≤ L) (hL' : L ≤ 20) (hn : n ≤ 63000) (hk : n + 10 < k) : tipstaffref08_ride.f k (n : Int) (L : Int) = some (((rideX n L).length : Int), peakOf (rideX n L)) := by
  obtain ⟨_, h2, _, h4⟩ := rideX_spec n L hL hL' hn
  have := ride_ref_loop L hL' h2 k 0 0 (by omega) hn (by omega) (by omega) (by omega)
  unfold tipstaffref08_ride.f
  rw [show ((0 : Nat) : Int) = 0 from rfl] at this
  rw [this, Int.zero_add]; rfl

theorem speeds_ref_loop (L : Nat) (hL' : L ≤ 20) {v left : Nat} {ys : List Int} (h : Shape L v left ys) : ∀ (k : Nat) (acc : List Int), v ≤ 20 → left ≤ 63000 → acc.length + ys.length ≤ 1000000 → ys.length + 10 < k →
    tipstaffref08_Speeds.l0 k (L : Int) acc (v : Int) (left : Int) = some (acc ++ ys, 0) := by
  induction h with
  | done v hv =>
    intro k acc _ _ _ hk
    obtain ⟨k, rfl, _⟩ := succ_of hk
    rw [tipstaffref08_Speeds.l0, if_neg (by omega), List.append_nil]
  | step v left v' ys g h ih =>
    intro k acc h1 h2 h3 hk
    simp only [List.length_cons] at h3 hk
    obtain ⟨k, rfl, hk'⟩ := succ_of hk
    have hle := greedy_left g
    have := g.pos
    have := g.lim
    rw [tipstaffref08_Speeds.l0, if_pos (by omega), greedy_ref g h1 k (by omega)]
    rw [Option.bind_some, if_pos (by omega), wrap_id ((left : Int) - (v' : Int)) (by omega) (by omega)]
    have := ih k (acc ++ [(v' : Int)]) (by omega) (by omega) (by simp; omega) (by omega)
    rw [show ((left : Int) - (v' : Int)) = ((left - v' : Nat) : Int) by omega, this, List.append_assoc]; rfl

theorem gone_ref_loop (L n : Nat) (t : Int) (ht : t ≤ 9223372036854775807) (hL' : L ≤ 20) {v left : Nat} {ys : List Int} (h : Shape L v left ys) : ∀ (k : Nat) (i s : Int), v ≤ 20 → n ≤ 63000 → s + left = n → 0 ≤ s → 0 ≤ i → ys.length + 10 < k →
    tipstaffref08_Gone.l0 k (n : Int) (L : Int) t (v : Int) (left : Int) i = some ((ys.take (t - i).toNat).foldl (fun s v => wrap64 (s + v)) s, if (ys.take (t - i).toNat).foldl (fun s v => wrap64 (s + v)) s = n then 0 else (ys.take (t - i).toNat).foldl (fun _ v => v) (v : Int), 0) := by
  induction h with
  | done v hv =>
    intro k i s _ _ hs h0 _ hk
    obtain ⟨k, rfl, _⟩ := succ_of hk
    rw [tipstaffref08_Gone.l0, List.take_nil]
    show _ = some (s, if s = (n : Int) then 0 else (v : Int), 0)
    have e : (n : Int) = s := by omega
    rw [if_pos e.symm]
    have e0 : ((0 : Nat) : Int) = 0 := rfl
    rw [e0, Int.sub_zero]
    split
    · rw [if_neg (by omega), if_pos rfl, e, wrap_id s (by omega) (by omega)]
    · rw [if_pos rfl, e, wrap_id s (by omega) (by omega)]
  | step v left v' ys g h ih =>
    intro k i s h1 h2 hs h0 hi hk
    simp only [List.length_cons] at hk
    obtain ⟨k, rfl, hk'⟩ := succ_of hk
    have hle := greedy_left g
    have := g.pos
    have := g.lim
    rw [tipstaffref08_Gone.l0]
    by_cases hit : i < t
    · rw [if_pos hit, if_pos (by omega), greedy_ref g h1 k (by omega), Option.bind_some, wrap_id (i + 1) (by omega) (by omega), wrap_id ((left : Int) - (v' : Int)) (by omega) (by omega)]
      obtain ⟨m, hm⟩ : ∃ m, (t - i).toNat = m + 1 := ⟨(t - i).toNat - 1, by omega⟩
      rw [hm, List.take_succ_cons, List.foldl_cons, List.foldl_cons, wrap_id (s + (v' : Int)) (by omega) (by omega)]
      have := ih k (i + 1) (s + (v' : Int)) (by omega) h2 (by omega) (by omega) (by omega) (by omega)
      rw [show (t - (i + 1)).toNat = m by omega] at this
      rw [show ((left : Int) - (v' : Int)) = ((left - v' : Nat) : Int) by omega, this]
    · rw [if_neg hit, if_neg (by omega), show (t - i).toNat = 0 by omega, List.take_zero, List.foldl_nil, List.foldl_nil, wrap_id _ (by omega) (by omega), if_neg (by omega)]
      rw [show (n : Int) - (left : Int) = s by omega]

theorem reach_ref_loop (t L : Nat) (hL : 1 ≤ L) (hL' : L ≤ 20) : ∀ (d k low high : Nat), high - low = d → low ≤ high → high ≤ 63000 → low ≤ D L 0 t → (D L 0 t < high + 1 ∨ high = 63000) → 63020 + d < k →
    tipstaffref08_Reach.l0 k (t : Int) (L : Int) (low : Int) (high : Int) = some (((min (D L 0 t) 63000 : Nat) : Int), 0) := by
  intro d
  induction d using Nat.strongRecOn with
  | _ d ih =>
    intro k low high hd hlh hh hlo hhi hk
    obtain ⟨k, rfl, hk'⟩ := succ_of hk
    rw [tipstaffref08_Reach.l0]
    by_cases hlt : (low : Int) < (high : Int)
    · have em : wrap64 ((low : Int) + wrap64 (Int.tdiv (wrap64 (wrap64 ((high : Int) - (low : Int)) + 1)) 2)) = ((low + (high - low + 1) / 2 : Nat) : Int) := by
        rw [wrap_id ((high : Int) - (low : Int)) (by omega) (by omega), wrap_id ((high : Int) - (low : Int) + 1) (by omega) (by omega), Int.tdiv_eq_ediv_of_nonneg (by omega), wrap_id (((high : Int) - (low : Int) + 1) / 2) (by omega) (by omega), wrap_id _ (by omega) (by omega)]
        omega
      obtain ⟨m, hm⟩ : ∃ m, m = low + (high - low + 1) / 2 := ⟨_, rfl⟩
      rw [if_pos hlt, em, ← hm, ride_ref m L k hL hL' (by omega) (by omega), Option.bind_some]
      obtain ⟨_, _, h3, _⟩ := rideX_spec m L hL hL' (by omega)
      have h4 := h3 t
      by_cases hc : m ≤ D L 0 t
      · rw [if_pos (by have := h4.2 hc; omega)]
        exact ih (high - m) (by omega) k m high rfl (by omega) hh hc hhi (by omega)
      · rw [if_neg (by intro h; exact hc (h4.1 (by omega))), wrap_id ((m : Int) - 1) (by omega) (by omega), show ((m : Int) - 1) = ((m - 1 : Nat) : Int) by omega]
        exact ih (m - 1 - low) (by omega) k low (m - 1) rfl (by omega) (by omega) hlo (.inl (by omega)) (by omega)
    · rw [if_neg hlt]
      have : low = min (D L 0 t) 63000 := by omega
      rw [this]

end Go.Proofs.Ytgjcpocncpeibaa.Pure
