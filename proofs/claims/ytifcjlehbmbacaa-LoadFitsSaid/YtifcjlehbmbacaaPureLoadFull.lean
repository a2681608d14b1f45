/- So many persons fit as Fit says, and one more does not: for all numbers. -/
import Derived.Test.YtifcjlehbmbacaaS15
import Derived.Test.YtifcjlehbmbacaaS7
import Derived.Test.YtifcjlehbmbacaaPureLoadGrows
namespace Go.Proofs.Ytifcjlehbmbacaa.Pure
open Go.RowKit Go.Proofs.Ytifcjlehbmbacaa.S Go.Proofs.YtifcjlehbmbacaaW.PrintWords Go.Proofs.YtifcjlehbmbacaaW.PrintLast
set_option linter.unusedVariables false
set_option linter.unusedSimpArgs false

/-- What 'Fit' answers. -/
def fitV (e f s n p : Int) : Int × Int := if (bandV e f s n).2 = 0 then (if p < 1 then (0, 2) else if p > 10000 then (0, 2) else (mx 0 (f - n) / p, 0)) else (0, (bandV e f s n).2)
theorem fit_val {k : Nat} (hk : 1 ≤ k) (e f s n p : Int) : load_Fit.f k e f s n p = some (fitV e f s n p) := by
  unfold load_Fit.f fitV
  rw [band_val hk]; simp only [Option.bind_some, if_true, if_false]
  by_cases h : (bandV e f s n).2 = 0
  · rw [if_pos h, if_pos h]
    obtain ⟨h1, h2⟩ := bandV_ok h
    have h3 : 0 ≤ f ∧ f ≤ 10000 := by
      unfold chk at h1
      split at h1
      · omega
      · split at h1 <;> omega
    have h4 : 0 ≤ n ∧ n ≤ 10000 := by unfold isL at h2; simpa using h2
    split
    · rfl
    · split
      · rfl
      · rw [if_neg (by omega), wrap_id (f - n) (by omega) (by omega)]
        have h5 : 0 ≤ mx 0 (f - n) ∧ mx 0 (f - n) ≤ 10000 := by unfold mx; omega
        have h6 : 0 ≤ mx 0 (f - n) / p := Int.ediv_nonneg h5.1 (by omega)
        have h7 : mx 0 (f - n) / p ≤ mx 0 (f - n) := Int.ediv_le_self _ h5.1
        rw [wrap_id _ (by omega) (by omega)]
  · rw [if_neg h, if_neg h]

theorem LoadFull : tipstafflaw11_LoadFull.Pure := by
  intro a0 a1 a2 w0 w1 w2
  obtain ⟨e, f, s, hm, he0, he1, hs0, hs1, hf0, hf1⟩ := made_val a0 (i64_of w0)
  have ex := mod_val a1 200 (i64_of w1) (by omega) (by omega)
  have hx0 := Int.emod_nonneg a1 (show (200 : Int) ≠ 0 by omega)
  have hx1 := Int.emod_lt_of_pos a1 (show (0 : Int) < 200 by omega)
  generalize a1 % 200 = a at *
  have ey := mod_val a2 60 (i64_of w2) (by omega) (by omega)
  have hy0 := Int.emod_nonneg a2 (show (60 : Int) ≠ 0 by omega)
  have hy1 := Int.emod_lt_of_pos a2 (show (0 : Int) < 60 by omega)
  generalize a2 % 60 = y at *
  have hc := chk_made ⟨he0, he1, hs0, hs1, hf0, hf1⟩
  obtain ⟨K, hK⟩ : ∃ K : Nat, K = 101 := ⟨_, rfl⟩
  refine ⟨K + 1, ?_⟩
  unfold tipstafflaw11_LoadFull.f
  rw [hm]; simp only [Option.bind_some, if_true, if_false]
  rw [ex]; simp only [Option.bind_some, if_true, if_false]
  rw [ey]; simp only [Option.bind_some, if_true, if_false]
  rw [wrap_id (1 + y) (by omega) (by omega)]
  obtain ⟨p, rfl⟩ : ∃ p, p = 1 + y := ⟨_, rfl⟩
  generalize hp : 1 + y = p at *
  rw [fit_val (by omega), band_val (by omega)]
  simp only [Option.bind_some, if_true, if_false]
  have hb := bandV_good (e := e) (f := f) (s := s) (n := a) hc hx0 (by omega)
  have hfit : fitV e f s a p = (mx 0 (f - a) / p, 0) := by
    unfold fitV; rw [hb, if_pos rfl, if_neg (by omega), if_neg (by omega)]
  rw [hb, hfit]
  have hq0 : 0 ≤ mx 0 (f - a) / p := Int.ediv_nonneg (by unfold mx; omega) (by omega)
  have hq1 : mx 0 (f - a) / p ≤ mx 0 (f - a) := Int.ediv_le_self _ (by unfold mx; omega)
  have hq2 : mx 0 (f - a) ≤ 300 := by unfold mx; omega
  have hm1 : p * (mx 0 (f - a) / p) ≤ mx 0 (f - a) := Int.mul_ediv_self_le (by omega)
  have hm2 : mx 0 (f - a) < p * (mx 0 (f - a) / p) + p := Int.lt_mul_ediv_self_add (by omega)
  simp only [if_true]
  rw [if_neg (by omega), decide_eq_false (by omega)]
  generalize hq : mx 0 (f - a) / p = q at *
  rw [tipstafflaw11_LoadFull.j0]
  rw [if_neg (by decide)]
  have hqp : (q + 1) * p = q * p + p := by rw [Int.add_mul, Int.one_mul]
  have hcm : p * q = q * p := Int.mul_comm _ _
  rw [hcm] at hm1 hm2
  have hqpn : 0 ≤ q * p := Int.mul_nonneg hq0 (by omega)
  by_cases h3 : bnd e f a = 3
  · rw [if_pos h3]
    have : mx 0 (f - a) = 0 := by unfold bnd at h3; unfold mx; (repeat' split at h3) <;> omega
    have hq00 : q = 0 := by rw [← hq, this]; simp
    rw [if_pos hq00, awake_val _ (by omega)]; rfl
  · rw [if_neg h3]
    have h4 : a ≤ f := by unfold bnd at h3; (repeat' split at h3) <;> omega
    have h5 : mx 0 (f - a) = f - a := by unfold mx; omega
    rw [h5] at hm1 hm2
    rw [wrap_id (q + 1) (by omega) (by omega), hqp, wrap_id (q * p) (by omega) (by omega), wrap_id (a + q * p) (by omega) (by omega), wrap_id (q * p + p) (by omega) (by omega), wrap_id (a + _) (by omega) (by omega)]
    rw [band_val (by omega), band_val (by omega), bandV_good hc (by omega) (by omega), bandV_good hc (by omega) (by omega)]
    simp only [Option.bind_some, if_true, if_false]
    have h6 : ¬ bnd e f (a + q * p) = 3 := by unfold bnd; (repeat' split) <;> omega
    have h7 : bnd e f (a + (q * p + p)) = 3 := by unfold bnd; (repeat' split) <;> omega
    rw [if_neg h6, if_pos h7, awake_val _ (by omega)]; rfl

end Go.Proofs.Ytifcjlehbmbacaa.Pure
