/- Plain facts on the loads' functions: what each printed function of the chapter comes to, for any numbers. -/
import Derived.Test.YtifcjlehbmbacaaS1
import Derived.Test.YtifcjlehbmbacaaS2
import Derived.Test.YtifcjlehbmbacaaS5
import Derived.Test.YtifcjlehbmbacaaS13
import Derived.Test.YtifcjlehbmbacaaS10
import Derived.Test.YtifcjlehbmbacaaKit
namespace Go.Proofs.Ytifcjlehbmbacaa.Pure
open Go.RowKit Go.Proofs.Ytifcjlehbmbacaa.S Go.Proofs.YtifcjlehbmbacaaW.PrintWords Go.Proofs.YtifcjlehbmbacaaW.PrintLast
set_option linter.unusedVariables false
set_option linter.unusedSimpArgs false

def chk (e f s : Int) : Int := if e < 0 ∨ s < 0 ∨ f > 10000 then 2 else if e > 10000 ∨ s > 10000 ∨ e + 2 * s ≥ f then 8 else 0
def isL (n : Int) : Bool := decide (0 ≤ n ∧ n ≤ 10000)
def bnd (e f n : Int) : Int := if n ≤ e then 1 else if n ≤ f then 2 else 3
def hld (e f s b n : Int) : Int := if b = 1 ∧ n ≤ e + s then 1 else if b = 3 ∧ n > f - s then 3 else bnd e f n

theorem chk_val {k : Nat} (hk : 1 ≤ k) (e f s : Int) : load_Check.f k e f s = some (chk e f s) := by
  obtain ⟨k, rfl, _⟩ := succ_of (d := 0) hk
  unfold load_Check.f load_Check.j0 chk
  by_cases h1 : e < 0
  · simp [h1]
  · by_cases h2 : s < 0
    · simp [h1, h2]
    · by_cases h3 : f > 10000
      · simp [h1, h2, h3]
      · by_cases h4 : e > 10000
        · simp [h1, h2, h3, h4]
        · by_cases h5 : s > 10000
          · simp [h1, h2, h3, h4, h5]
          · have e1 : wrap64 (2 * s) = 2 * s := wrap_id _ (by omega) (by omega)
            have e2 : wrap64 (e + 2 * s) = e + 2 * s := wrap_id _ (by omega) (by omega)
            simp only [h1, h2, h3, h4, h5, e1, e2, if_false, decide_false, Bool.false_eq_true, false_or]
            split <;> rfl

theorem is_val (n : Int) : load_is.f n = some (isL n) := by
  unfold load_is.f isL
  by_cases h : n ≥ 0
  · simp [h]
  · simp [h]

theorem of_val (e f s n : Int) : load_of.f e f s n = some (bnd e f n) := by
  unfold load_of.f bnd
  split
  · rfl
  · split <;> rfl

/-- What 'Band' answers. -/
def bandV (e f s n : Int) : Int × Int := if chk e f s = 0 then (if isL n = true then (bnd e f n, 0) else (0, 2)) else (0, chk e f s)
theorem band_val {k : Nat} (hk : 1 ≤ k) (e f s n : Int) : load_Band.f k e f s n = some (bandV e f s n) := by
  unfold load_Band.f bandV
  rw [chk_val hk, is_val, of_val]
  simp only [Option.bind_some]
  split
  · split <;> rfl
  · rfl

theorem after_val {k : Nat} (hk : 1 ≤ k) (e f s b n : Int) (h : chk e f s = 0) (hb : 1 ≤ b) (hb' : b ≤ 3) : load_band_after.f k b e f s n = some (hld e f s b n) := by
  obtain ⟨k, rfl, _⟩ := succ_of (d := 0) hk
  have hc : ¬ (e < 0 ∨ s < 0 ∨ f > 10000) ∧ ¬ (e > 10000 ∨ s > 10000 ∨ e + 2 * s ≥ f) := by
    unfold chk at h; split at h
    · omega
    · split at h <;> omega
  unfold load_band_after.f load_band_after.j0 hld
  simp only [of_val, Option.bind_some]
  have e1 : wrap64 (e + s) = e + s := wrap_id _ (by omega) (by omega)
  have e2 : wrap64 (f - s) = f - s := wrap_id _ (by omega) (by omega)
  rw [e1, e2]
  by_cases h1 : b = 1
  · subst h1
    simp
    split <;> rfl
  · by_cases h2 : b = 2
    · subst h2; simp
    · have h3 : b = 3 := by omega
      subst h3; simp; split <;> rfl

def heldV (e f s b n : Int) : Int × Int := if (bandV e f s n).2 = 0 then (if b < 1 then (0, 11) else if b > 3 then (0, 11) else (hld e f s b n, 0)) else (0, (bandV e f s n).2)
theorem bandV_ok {e f s n : Int} (h : (bandV e f s n).2 = 0) : chk e f s = 0 ∧ isL n = true := by
  unfold bandV at h
  split at h
  · rename_i h1
    split at h
    · rename_i h2; exact ⟨h1, h2⟩
    · simp at h
  · rename_i h1; simp at h; exact absurd h h1

theorem held_val {k : Nat} (hk : 1 ≤ k) (e f s b n : Int) : load_Held.f k e f s b n = some (heldV e f s b n) := by
  unfold load_Held.f heldV
  rw [band_val hk]
  simp only [Option.bind_some]
  by_cases h0 : (bandV e f s n).2 = 0
  · rw [if_pos h0, if_pos h0]
    split
    · rfl
    · split
      · rfl
      · rw [after_val hk _ _ _ _ _ (bandV_ok h0).1 (by omega) (by omega)]; rfl
  · rw [if_neg h0, if_neg h0]

theorem made_val (a : Int) (ha : I64 a) : ∃ e f s, tipstafflaw11_made.f a = some (e, f, s) ∧ 0 ≤ e ∧ e < 40 ∧ 0 ≤ s ∧ s < 12 ∧ e + 2 * s + 1 ≤ f ∧ f ≤ e + 2 * s + 100 := by
  unfold tipstafflaw11_made.f
  rw [mod_val a 1048576 ha (by omega) (by omega)]; simp only [Option.bind_some]
  have h0 := Int.emod_nonneg a (show (1048576 : Int) ≠ 0 by omega)
  have h1 := Int.emod_lt_of_pos a (show (0 : Int) < 1048576 by omega)
  generalize a % 1048576 = r at *
  have t1 : r.tmod 40 = r % 40 := Int.tmod_eq_emod_of_nonneg h0
  have t2 : r.tdiv 40 = r / 40 := Int.tdiv_eq_ediv_of_nonneg h0
  have t3 : r.tdiv 480 = r / 480 := Int.tdiv_eq_ediv_of_nonneg h0
  rw [t1, t2, t3, wrap_id (r / 40) (by omega) (by omega), wrap_id (r / 480) (by omega) (by omega)]
  have t4 : (r / 40).tmod 12 = r / 40 % 12 := Int.tmod_eq_emod_of_nonneg (by omega)
  have t5 : (r / 480).tmod 100 = r / 480 % 100 := Int.tmod_eq_emod_of_nonneg (by omega)
  rw [t4, t5, wrap_id (2 * _) (by omega) (by omega), wrap_id (_ + 2 * _) (by omega) (by omega), wrap_id (_ + 2 * _ + 1) (by omega) (by omega), wrap_id _ (by omega) (by omega)]
  exact ⟨_, _, _, rfl, by omega, by omega, by omega, by omega, by omega, by omega⟩

theorem chk_made {e f s : Int} (h : 0 ≤ e ∧ e < 40 ∧ 0 ≤ s ∧ s < 12 ∧ e + 2 * s + 1 ≤ f ∧ f ≤ e + 2 * s + 100) : chk e f s = 0 := by
  unfold chk; rw [if_neg (by omega), if_neg (by omega)]

theorem awake_val : ∀ k, 100 ≤ k → tipstafflaw11_awake.f k = some true := fun _ hk => at_rounds tipstafflaw11_awake.mono hk (by decide +kernel)

end Go.Proofs.Ytifcjlehbmbacaa.Pure
