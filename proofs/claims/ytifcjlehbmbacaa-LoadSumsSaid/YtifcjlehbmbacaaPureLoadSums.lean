/- The load of persons, and a load that is tared, are as the reference says: for all lists and numbers. -/
import Derived.Test.YtifcjlehbmbacaaS24
import Derived.Test.YtifcjlehbmbacaaLoads
namespace Go.Proofs.Ytifcjlehbmbacaa.Pure
open Go.RowKit Go.Proofs.Ytifcjlehbmbacaa.S Go.Proofs.YtifcjlehbmbacaaW.PrintWords Go.Proofs.YtifcjlehbmbacaaW.PrintLast
set_option linter.unusedVariables false
set_option linter.unusedSimpArgs false

theorem isL_true {n : Int} : isL n = true ↔ 0 ≤ n ∧ n ≤ 10000 := by unfold isL; simp
theorem total_loop (l : List Int) (hl : l.length ≤ 2000) : ∀ (d k i : Nat) (t : Int), i + d = l.length → d < k → 0 ≤ t → t ≤ 10000 * i → (∀ x ∈ l, isL x = true) →
    load_Total.l0 k t l (l.length : Int) (i : Int) = tipstaffref11_Total.l0 k l t (i : Int) := by
  intro d
  induction d with
  | zero =>
    intro k i t hi hk ht0 ht1 hg
    obtain ⟨k, rfl, hk⟩ := succ_of hk
    unfold load_Total.l0 tipstaffref11_Total.l0
    rw [if_neg (by omega), if_neg (by omega), is_val]
    simp only [Option.bind_some, if_true, if_false]
    by_cases h : isL t = true
    · rw [if_pos h, if_neg (by rw [isL_true] at h; omega)]
    · rw [if_neg h, if_pos (by rw [isL_true] at h; omega)]
  | succ d ih =>
    intro k i t hi hk ht0 ht1 hg
    obtain ⟨k, rfl, hk⟩ := succ_of hk
    have hx : isL (rd l (i : Int)) = true := by rw [rd_nat l i (by omega)]; exact hg _ (List.getElem_mem _)
    have hx' := isL_true.1 hx
    have e1 : tipstaffref11_load.f (rd l (i : Int)) = some (isL (rd l (i : Int))) := is_val _
    unfold load_Total.l0 tipstaffref11_Total.l0
    rw [if_pos (by omega), if_pos (by omega), if_pos (by omega), if_pos (by omega), if_pos (by omega), e1]
    simp only [Option.bind_some, if_true, if_false]
    rw [if_pos hx, wrap_succ i (by omega), wrap_id (t + _) (by omega) (by omega)]
    exact ih k (i + 1) _ (by omega) (by omega) (by omega) (by omega) hg

theorem ref_total_bad (l : List Int) (hl : l.length ≤ 2000) : ∀ (d k i : Nat) (t : Int), i + d = l.length → d < k → ¬ (∀ x ∈ l.drop i, isL x = true) →
    tipstaffref11_Total.l0 k l t (i : Int) = some (0, 2) := by
  intro d
  induction d with
  | zero =>
    intro k i t hi hk hb
    exact absurd (by intro x hx; rw [List.drop_eq_nil_of_le (by omega)] at hx; cases hx) hb
  | succ d ih =>
    intro k i t hi hk hb
    obtain ⟨k, rfl, hk⟩ := succ_of hk
    have e1 : tipstaffref11_load.f (rd l (i : Int)) = some (isL (rd l (i : Int))) := is_val _
    unfold tipstaffref11_Total.l0
    rw [if_pos (by omega), if_pos (by omega), e1]
    simp only [Option.bind_some, if_true, if_false]
    rw [drop_rd l i (by omega)] at hb
    by_cases hx : isL (rd l (i : Int)) = true
    · rw [if_pos hx, wrap_succ i (by omega)]
      refine ih k (i + 1) _ (by omega) (by omega) (fun h => hb ?_)
      intro x hm
      rcases List.mem_cons.1 hm with rfl | hm
      · exact hx
      · exact h x hm
    · rw [if_neg hx]

theorem total_same (l : List Int) {k : Nat} (hk : 2010 ≤ k) : load_Total.f k l = tipstaffref11_Total.f k l := by
  unfold load_Total.f tipstaffref11_Total.f
  by_cases h : (l.length : Int) > 2000
  · rw [if_pos h, loads_long l h]; simp
  · rw [if_neg h, loads_val l (by omega) (by omega)]
    simp only [Option.bind_some, if_true, if_false]
    by_cases hg : ∀ x ∈ l, isL x = true
    · have h1 : loadsV l = 0 := by unfold loadsV; rw [if_pos (by simpa using hg)]
      rw [if_pos h1]
      exact total_loop l (by omega) l.length k 0 0 (by omega) (by omega) (by omega) (by omega) hg
    · have h1 : loadsV l = 2 := by unfold loadsV; rw [if_neg (by simpa using hg)]
      rw [if_neg (by omega), h1]
      exact (ref_total_bad l (by omega) l.length k 0 0 (by omega) (by omega) (by simpa using hg)).symm

theorem tare_same (n b : Int) : load_Tare.f n b = tipstaffref11_Tare.f n b ∧ ∃ p, load_Tare.f n b = some p := by
  have e1 : ∀ x, tipstaffref11_load.f x = some (isL x) := is_val
  unfold load_Tare.f tipstaffref11_Tare.f
  rw [is_val, is_val, e1, e1]
  simp only [Option.bind_some, if_true, if_false]
  by_cases h1 : isL n = true
  · by_cases h2 : isL b = true
    · simp [h1, h2]
    · simp [h1, h2]
  · simp [h1]

theorem total_some (l : List Int) {K : Nat} (hK : 2010 ≤ K) : ∃ p, load_Total.f K l = some p := by
  unfold load_Total.f
  by_cases h : (l.length : Int) > 2000
  · rw [loads_long l h]; simp
  · rw [loads_val l (by omega) (by omega)]
    simp only [Option.bind_some, if_true, if_false]
    have main : ∀ (d k i : Nat) (t : Int), i + d = l.length → d < k → ∃ p, load_Total.l0 k t l (l.length : Int) (i : Int) = some p := by
      intro d
      induction d with
      | zero =>
        intro k i t hi hk
        obtain ⟨k, rfl, hk⟩ := succ_of hk
        unfold load_Total.l0
        rw [if_neg (by omega), is_val]; simp only [Option.bind_some, if_true, if_false]; split <;> exact ⟨_, rfl⟩
      | succ d ih =>
        intro k i t hi hk
        obtain ⟨k, rfl, hk⟩ := succ_of hk
        unfold load_Total.l0
        rw [if_pos (by omega), if_pos (by omega), if_pos (by omega), wrap_succ i (by omega)]
        exact ih k (i + 1) _ (by omega) (by omega)
    split
    · exact main l.length K 0 0 (by omega) (by omega)
    · exact ⟨_, rfl⟩

theorem LoadSums : tipstafflaw11_LoadSums.Pure := by
  intro l a1 a2 _ _ _ _ _
  obtain ⟨K, hK⟩ : ∃ K : Nat, K = 2010 := ⟨_, rfl⟩
  refine ⟨K + 1, ?_⟩
  have e1 := total_same l (k := K) (by omega)
  obtain ⟨p, hp⟩ := total_some l (show 2010 ≤ K by omega)
  obtain ⟨e2, q, hq⟩ := tare_same a1 a2
  have hj : ∀ b, tipstafflaw11_LoadSums.j0 (K + 1) l a1 a2 b = some true := by
    intro b
    rw [tipstafflaw11_LoadSums.j0]
    split
    · rw [awake_val _ (by omega)]; rfl
    · rw [← e1, hp, ← e2, hq]
      simp only [Option.bind_some, if_true, if_false]
      rw [awake_val _ (by omega)]; rfl
  unfold tipstafflaw11_LoadSums.f
  repeat' split
  all_goals exact hj _

end Go.Proofs.Ytifcjlehbmbacaa.Pure
