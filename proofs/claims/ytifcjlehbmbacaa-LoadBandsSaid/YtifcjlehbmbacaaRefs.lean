/- The reference's functions on loads come to the same. -/
import Derived.Test.YtifcjlehbmbacaaS3
import Derived.Test.YtifcjlehbmbacaaS4
import Derived.Test.YtifcjlehbmbacaaS6
import Derived.Test.YtifcjlehbmbacaaBase
namespace Go.Proofs.Ytifcjlehbmbacaa.Pure
open Go.RowKit Go.Proofs.Ytifcjlehbmbacaa.S Go.Proofs.YtifcjlehbmbacaaW.PrintWords Go.Proofs.YtifcjlehbmbacaaW.PrintLast
set_option linter.unusedVariables false
set_option linter.unusedSimpArgs false

theorem chk_zero {e f s : Int} (h : chk e f s = 0) : 0 ≤ e ∧ e ≤ 10000 ∧ 0 ≤ s ∧ s ≤ 10000 ∧ e + 2 * s < f ∧ f ≤ 10000 := by
  unfold chk at h
  split at h
  · omega
  · split at h <;> omega

theorem ref_load_val (n : Int) : tipstaffref11_load.f n = some (isL n) := is_val n

theorem ref_chk_val {k : Nat} (hk : 1 ≤ k) (e f s : Int) (hf : I64 f) (hs : I64 s) : tipstaffref11_Check.f k e f s = some (chk e f s) := by
  obtain ⟨k, rfl, _⟩ := succ_of (d := 0) hk
  unfold tipstaffref11_Check.f tipstaffref11_Check.j0 chk
  unfold I64 at hf hs
  by_cases h1 : e < 0
  · simp [h1]
  · by_cases h2 : s < 0
    · simp [h1, h2]
    · by_cases h3 : f > 10000
      · simp [h1, h2, h3]
      · by_cases h4 : e > 10000
        · simp [h1, h2, h3, h4]
        · by_cases h5 : s > 10000
          · simp [h1, h2, h3, h4, h5]
          · have e1 : wrap64 (e + s) = e + s := wrap_id _ (by omega) (by omega)
            by_cases h6 : f < 0
            · simp [h1, h2, h3, h4, h5, h6]; omega
            · have e2 : wrap64 (f - s) = f - s := wrap_id _ (by omega) (by omega)
              simp only [h1, h2, h3, h4, h5, h6, e1, e2, if_false, decide_false, Bool.false_eq_true, false_or]
              split <;> split <;> first | rfl | omega

theorem ref_band_fn (e f s n : Int) : tipstaffref11_band.f e f s n = some (bnd e f n) := of_val e f s n

theorem ref_band_val {k : Nat} (hk : 3 ≤ k) (e f s n : Int) (hf : I64 f) (hs : I64 s) : tipstaffref11_Band.f k e f s n = some (bandV e f s n) := by
  obtain ⟨k, rfl, hk⟩ := succ_of (d := 2) hk
  unfold tipstaffref11_Band.f
  rw [ref_chk_val (by omega) _ _ _ hf hs]
  simp only [Option.bind_some, if_true, if_false]
  unfold bandV
  by_cases h0 : chk e f s = 0
  · rw [if_pos h0, if_pos h0, ref_load_val]
    simp only [Option.bind_some, if_true, if_false]
    by_cases h1 : isL n = true
    · simp [tipstaffref11_Band.j0, h0, h1, ref_band_fn]
    · simp [tipstaffref11_Band.j0, h0, h1, ref_band_fn]
  · rw [if_neg h0, if_neg h0]
    simp [tipstaffref11_Band.j0, h0]

theorem ref_held_fn {k : Nat} (hk : 1 ≤ k) (e f s b n : Int) (h : chk e f s = 0) : tipstaffref11_held.f k e f s b n = some (hld e f s b n) := by
  obtain ⟨k, rfl, hk⟩ := succ_of (d := 0) hk
  have hc := chk_zero h
  have e1 : wrap64 (e + s) = e + s := wrap_id _ (by omega) (by omega)
  have e2 : wrap64 (f - s) = f - s := wrap_id _ (by omega) (by omega)
  unfold tipstaffref11_held.f hld
  simp only [tipstaffref11_held.j0, e1, e2, ref_band_fn, Option.bind_some]
  by_cases h1 : b = 1
  · subst h1
    by_cases h2 : n ≤ e + s
    · simp [h2]
    · simp [h2]
  · by_cases h3 : b = 3
    · subst h3; simp; split <;> rfl
    · simp [h1, h3]

theorem ref_held_val {k : Nat} (hk : 3 ≤ k) (e f s b n : Int) (hf : I64 f) (hs : I64 s) : tipstaffref11_Held.f k e f s b n = some (heldV e f s b n) := by
  unfold tipstaffref11_Held.f
  rw [ref_chk_val (by omega) _ _ _ hf hs, ref_load_val]
  simp only [Option.bind_some, if_true, if_false]
  unfold heldV bandV
  by_cases h0 : chk e f s = 0
  · rw [if_pos h0, if_pos h0]
    by_cases h1 : isL n = true
    · rw [if_pos h1, if_pos h1, if_pos rfl]
      by_cases h2 : b < 1
      · simp [h2]
      · by_cases h3 : b > 3
        · simp [h2, h3]
        · simp [h2, h3, ref_held_fn (show 1 ≤ k by omega) _ _ _ _ _ h0]
    · rw [if_neg h1, if_neg h1, if_neg (by decide)]
  · rw [if_neg h0, if_neg h0, if_neg h0]

end Go.Proofs.Ytifcjlehbmbacaa.Pure
