/- How many persons still fit is as the reference says, for all limits and numbers. -/
import Derived.Test.YtifcjlehbmbacaaAskLoadFits
import Derived.Test.YtifcjlehbmbacaaRefs
import Derived.Test.YtifcjlehbmbacaaPureLoadFull
namespace Go.Proofs.Ytifcjlehbmbacaa.Pure
open Go.RowKit Go.Proofs.Ytifcjlehbmbacaa.S Go.Proofs.YtifcjlehbmbacaaW.PrintWords Go.Proofs.YtifcjlehbmbacaaW.PrintLast
set_option linter.unusedVariables false
set_option linter.unusedSimpArgs false

/-- The reference's loop: from k persons on, it ends at the quotient. -/
theorem fit_loop (f n p : Int) (hn : 0 ≤ n) (hn' : n ≤ 10000) (hp : 1 ≤ p) (hp' : p ≤ 10000) (hf : 0 ≤ f) (hf' : f ≤ 10000) (e s : Int) :
    ∀ (d k : Nat) (j : Int), 0 ≤ j → j ≤ mx 0 (f - n) / p → mx 0 (f - n) / p - j = d → d < k → tipstaffref11_Fit.l0 k n p j e f s = some (mx 0 (f - n) / p, 0) := by
  have hq0 : 0 ≤ mx 0 (f - n) / p := Int.ediv_nonneg (by unfold mx; omega) (by omega)
  have hq1 : mx 0 (f - n) / p ≤ mx 0 (f - n) := Int.ediv_le_self _ (by unfold mx; omega)
  have hq2 : mx 0 (f - n) ≤ 10000 := by unfold mx; omega
  have hm1 : p * (mx 0 (f - n) / p) ≤ mx 0 (f - n) := Int.mul_ediv_self_le (by omega)
  have hm2 : mx 0 (f - n) < p * (mx 0 (f - n) / p) + p := Int.lt_mul_ediv_self_add (by omega)
  have hx : mx 0 (f - n) = if f ≤ n then 0 else f - n := by unfold mx; split <;> split <;> omega
  generalize mx 0 (f - n) / p = q at *
  generalize mx 0 (f - n) = m at *
  intro d
  induction d with
  | zero =>
    intro k j h0 h1 hd hk
    obtain ⟨k, rfl, hk⟩ := succ_of hk
    have hj : j = q := by omega
    subst hj
    unfold tipstaffref11_Fit.l0
    have e1 : (j + 1) * p = p * j + p := by rw [Int.add_mul, Int.one_mul, Int.mul_comm]
    rw [wrap_id (j + 1) (by omega) (by omega), e1, wrap_id (p * j + p) (by omega) (by omega), wrap_id (n + _) (by omega) (by omega), if_neg (by split at hx <;> omega)]
  | succ d ih =>
    intro k j h0 h1 hd hk
    obtain ⟨k, rfl, hk⟩ := succ_of hk
    have hjq : p * (j + 1) ≤ p * q := Int.mul_le_mul_of_nonneg_left (by omega) (by omega)
    unfold tipstaffref11_Fit.l0
    have e1 : (j + 1) * p = p * (j + 1) := Int.mul_comm _ _
    have h5 : 0 ≤ p * (j + 1) := Int.mul_nonneg (by omega) (by omega)
    have h6 : f ≤ n → q = 0 := by
      intro h
      rw [if_pos h] at hx
      omega
    rw [wrap_id (j + 1) (by omega) (by omega), e1, wrap_id (p * (j + 1)) (by omega) (by omega), wrap_id (n + _) (by omega) (by omega), if_pos (by split at hx <;> omega)]
    exact ih k (j + 1) (by omega) (by omega) (by omega) (by omega)

theorem ref_fit_val {k : Nat} (hk : 10010 ≤ k) (e f s n p : Int) (hf : I64 f) (hs : I64 s) : tipstaffref11_Fit.f k e f s n p = some (fitV e f s n p) := by
  unfold tipstaffref11_Fit.f
  rw [ref_chk_val (by omega) _ _ _ hf hs, ref_load_val]
  simp only [Option.bind_some, if_true, if_false]
  obtain ⟨k, rfl, hk⟩ := succ_of (k := k) (d := 10009) hk
  obtain ⟨k, rfl, hk⟩ := succ_of (k := k) (d := 10008) (by omega)
  unfold fitV bandV
  by_cases h0 : chk e f s = 0
  · have hc := chk_zero h0
    by_cases h1 : isL n = true
    · have hn : 0 ≤ n ∧ n ≤ 10000 := by unfold isL at h1; simpa using h1
      by_cases h2 : p < 1
      · simp [h0, h1, h2, tipstaffref11_Fit.j0, tipstaffref11_Fit.j1]
      · by_cases h3 : p > 10000
        · simp [h0, h1, h2, h3, tipstaffref11_Fit.j0, tipstaffref11_Fit.j1]
        · have hq0 : 0 ≤ mx 0 (f - n) / p := Int.ediv_nonneg (by unfold mx; omega) (by omega)
          have hq1 : mx 0 (f - n) / p ≤ mx 0 (f - n) := Int.ediv_le_self _ (by unfold mx; omega)
          have hq2 : mx 0 (f - n) ≤ 10000 := by unfold mx; omega
          have hl := fit_loop f n p hn.1 hn.2 (by omega) (by omega) (by omega) (by omega) e s (mx 0 (f - n) / p).toNat k 0 (by omega) hq0 (by omega) (by omega)
          simp [h0, h1, h2, h3, tipstaffref11_Fit.j0, tipstaffref11_Fit.j1, hl]
    · simp [h0, h1, tipstaffref11_Fit.j0, tipstaffref11_Fit.j1]
  · simp [h0, tipstaffref11_Fit.j0, tipstaffref11_Fit.j1]

theorem LoadFits : LoadFits.Stmt := by
  intro e f s n p w0 w1 w2 _ _
  obtain ⟨K, hK⟩ : ∃ K : Nat, K = 10010 := ⟨_, rfl⟩
  refine ⟨K, ?_⟩
  unfold tipstafflaw11_LoadFits.f
  rw [fit_val (by omega), ref_fit_val (by omega) _ _ _ _ _ (i64_of w1) (i64_of w2)]
  simp only [Option.bind_some, if_true, if_false]
  rw [awake_val _ (by omega)]; rfl

end Go.Proofs.Ytifcjlehbmbacaa.Pure
