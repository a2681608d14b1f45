/- Times made of a number; what is found at a place that is told by trip and rest. -/
import Derived.Test.YtlfeiadmkoocgaaS6
import Derived.Test.YtlfeiadmkoocgaaKitMod
import Derived.Test.YtlfeiadmkoocgaaPh4
namespace Go.Proofs.Ytlfeiadmkoocgaa.Pure
open Go.RowKit Go.Proofs.Ytlfeiadmkoocgaa.S Go.Proofs.YtlfeiadmkoocgaaW.PrintWords Go.Proofs.YtlfeiadmkoocgaaW.PrintLast
set_option linter.unusedVariables false
set_option linter.unusedSimpArgs false

/-- Small times. -/
structure Small (m d : Int) (n s : Nat) : Prop where
  m : 1 ≤ m ∧ m ≤ 9
  d : 1 ≤ d ∧ d ≤ 7
  n : 1 ≤ n ∧ n ≤ 4
  s : 1 ≤ s ∧ s ≤ 5
theorem Small.bds {m d : Int} {n s : Nat} (h : Small m d n s) : 2 * (m + d) ≤ ((n : Int) + 1) * (m + d) ∧ ((n : Int) + 1) * (m + d) ≤ 80 ∧ m + ((n : Int) + 1) * (m + d) ≤ (s : Int) * (m + ((n : Int) + 1) * (m + d)) ∧ (s : Int) * (m + ((n : Int) + 1) * (m + d)) ≤ 445 := by
  have := h.m; have := h.d; have := h.n; have := h.s
  have a1 : 2 * (m + d) ≤ ((n : Int) + 1) * (m + d) := Int.mul_le_mul_of_nonneg_right (by omega) (by omega)
  have a2 : ((n : Int) + 1) * (m + d) ≤ 5 * (m + d) := Int.mul_le_mul_of_nonneg_right (by omega) (by omega)
  have a3 : 1 * (m + ((n : Int) + 1) * (m + d)) ≤ (s : Int) * (m + ((n : Int) + 1) * (m + d)) := Int.mul_le_mul_of_nonneg_right (by omega) (by omega)
  have a4 : (s : Int) * (m + ((n : Int) + 1) * (m + d)) ≤ 5 * (m + ((n : Int) + 1) * (m + d)) := Int.mul_le_mul_of_nonneg_right (by omega) (by omega)
  omega
theorem Small.tms {m d : Int} {n s : Nat} (h : Small m d n s) : Tms m d (m + d) (m + ((n : Int) + 1) * (m + d)) ((s : Int) * (m + ((n : Int) + 1) * (m + d))) n := by
  have hb := h.bds
  have := h.m; have := h.d; have := h.n; have := h.s
  refine ⟨by omega, by omega, rfl, by omega, rfl, ?_, by omega, by omega, ?_, Int.mul_emod_left _ _⟩
  · rw [show m + ((n : Int) + 1) * (m + d) - m = ((n : Int) + 1) * (m + d) by omega]
    exact Int.mul_ediv_cancel _ (by omega)
  · exact Int.mul_le_mul_of_nonneg_right (by omega) (by omega)

theorem made_val (a0 : Int) (h : I64 a0) : ∃ m d : Int, ∃ n s : Nat, Small m d n s ∧ tipstafflaw26_made.f a0 = some (m, d, m + d, m + ((n : Int) + 1) * (m + d), (s : Int) * (m + ((n : Int) + 1) * (m + d)), (n : Int), (s : Int)) := by
  rw [tipstafflaw26_made.f, mod_val a0 1073741824 h (by omega) (by omega), Option.bind_some]
  obtain ⟨k, hk⟩ : ∃ k, a0 % 1073741824 = k := ⟨_, rfl⟩
  have k0 := Int.emod_nonneg a0 (show (1073741824 : Int) ≠ 0 by omega)
  have k1 := Int.emod_lt_of_pos a0 (show (0 : Int) < 1073741824 by omega)
  rw [hk] at k0 k1 ⊢
  obtain ⟨m, hm⟩ : ∃ m, 1 + k % 9 = m := ⟨_, rfl⟩
  obtain ⟨d, hd⟩ : ∃ d, 1 + k / 9 % 7 = d := ⟨_, rfl⟩
  obtain ⟨n, hn⟩ : ∃ n : Nat, 1 + k / 63 % 4 = n := ⟨(1 + k / 63 % 4).toNat, by omega⟩
  obtain ⟨s, hs⟩ : ∃ s : Nat, 1 + k / 252 % 5 = s := ⟨(1 + k / 252 % 5).toNat, by omega⟩
  have e1 : wrap64 (1 + Int.tmod k 9) = m := by rw [Int.tmod_eq_emod_of_nonneg k0, wrap_id _ (by omega) (by omega)]; exact hm
  have e2 : wrap64 (1 + Int.tmod (wrap64 (Int.tdiv k 9)) 7) = d := by rw [Int.tdiv_eq_ediv_of_nonneg k0, wrap_id (k / 9) (by omega) (by omega), Int.tmod_eq_emod_of_nonneg (by omega), wrap_id _ (by omega) (by omega)]; exact hd
  have e3 : wrap64 (1 + Int.tmod (wrap64 (Int.tdiv k 63)) 4) = n := by rw [Int.tdiv_eq_ediv_of_nonneg k0, wrap_id (k / 63) (by omega) (by omega), Int.tmod_eq_emod_of_nonneg (by omega), wrap_id _ (by omega) (by omega)]; exact hn
  have e4 : wrap64 (1 + Int.tmod (wrap64 (Int.tdiv k 252)) 5) = s := by rw [Int.tdiv_eq_ediv_of_nonneg k0, wrap_id (k / 252) (by omega) (by omega), Int.tmod_eq_emod_of_nonneg (by omega), wrap_id _ (by omega) (by omega)]; exact hs
  have S : Small m d n s := ⟨by omega, by omega, by omega, by omega⟩
  have hb := S.bds
  have := S.m; have := S.d; have := S.n; have := S.s
  refine ⟨m, d, n, s, S, ?_⟩
  rw [e1, e2, e3, e4, wrap_id (m + d) (by omega) (by omega), wrap_id ((n : Int) + 1) (by omega) (by omega), wrap_id (((n : Int) + 1) * (m + d)) (by omega) (by omega), wrap_id (m + _) (by omega) (by omega), wrap_id ((s : Int) * _) (by omega) (by omega)]

theorem find_at {m d : Int} (hm : 1 ≤ m) (hd : 1 ≤ d) (n c : Nat) (u v : Int) (h0 : 0 ≤ v) (h1 : v < m + d) (h : u = m + c * (m + d) + v) : findP m d n u = if v < m then oddP m d n c else evenP m d n c := by
  have p : 0 ≤ (c : Int) * (m + d) := Int.mul_nonneg (by omega) (by omega)
  have e : u - m = v + (c : Int) * (m + d) := by omega
  have e1 : (u - m) / (m + d) = c := by rw [e, Int.add_mul_ediv_right _ _ (by omega), Int.ediv_eq_zero_of_lt h0 h1]; omega
  have e2 : (u - m) % (m + d) = v := by rw [e, Int.add_mul_emod_self_right, Int.emod_eq_of_lt h0 h1]
  unfold findP
  rw [if_neg (by omega), e1, e2, Int.toNat_natCast]

/-- The next place: in the same piece, or at the begin of another one, or of the next slot. -/
theorem find_next {m d : Int} (hm : 1 ≤ m) (hd : 1 ≤ d) (n : Nat) (hn : 1 ≤ n) (u : Int) (h0 : 0 ≤ u) (h1 : u < m + (n + 1) * (m + d)) :
    u + 1 = m + (n + 1) * (m + d) ∨ (u + 1 < m + (n + 1) * (m + d) ∧ (findP m d n (u + 1) = findP m d n u ∨ ((findP m d n (u + 1)).f2 = u + 1 ∧ (findP m d n (u + 1)).f0 ≠ (findP m d n u).f0))) := by
  have e3 : ((n : Int) + 1) * (m + d) = (n : Int) * (m + d) + (m + d) := by rw [Int.add_mul]; simp
  have pn : 0 ≤ (n : Int) * (m + d) := Int.mul_nonneg (by omega) (by omega)
  rcases find_cases hm hd n u h0 h1 with ⟨hlt, e⟩ | ⟨c, hc, v, v0, v1, hv, _, _, ⟨a, e⟩ | ⟨a, e⟩⟩
  · refine Or.inr ⟨by omega, ?_⟩
    by_cases h : u + 1 < m
    · left; rw [e]; unfold findP; rw [if_pos h]
    · right
      rw [find_at hm hd n 0 (u + 1) 0 (by omega) (by omega) (by simp; omega), if_pos (by omega), e, oddP_f2]
      unfold oddP
      rw [if_neg (by omega)]
      simp; omega
  · have pc := mul_mono (t := m + d) hc (by omega)
    refine Or.inr ⟨by omega, ?_⟩
    by_cases h : v + 1 < m
    · left; rw [e, find_at hm hd n c (u + 1) (v + 1) (by omega) (by omega) (by omega), if_pos h]
    · right
      rw [e, find_at hm hd n c (u + 1) (v + 1) (by omega) (by omega) (by omega), if_neg h, evenP_f2]
      refine ⟨by omega, ?_⟩
      unfold oddP evenP; split <;> simp
  · by_cases h : v + 1 < m + d
    · have pc := mul_mono (t := m + d) hc (by omega)
      refine Or.inr ⟨by omega, Or.inl ?_⟩
      rw [e, find_at hm hd n c (u + 1) (v + 1) (by omega) (by omega) (by omega), if_neg (by omega)]
    · by_cases hcn : c = n
      · subst hcn; left; omega
      · have pc := mul_mono (t := m + d) (show c + 1 ≤ n by omega) (by omega)
        have ec := mul_succ' c (m + d)
        refine Or.inr ⟨by omega, Or.inr ?_⟩
        rw [e, find_at hm hd n (c + 1) (u + 1) 0 (by omega) (by omega) (by omega), if_pos (by omega), oddP_f2]
        refine ⟨by omega, ?_⟩
        unfold oddP evenP; rw [if_neg hcn]; split <;> simp

end Go.Proofs.Ytlfeiadmkoocgaa.Pure
