/- Valid times: Check of the program and of the reference. -/
import Derived.Test.YtlfeiadmkoocgaaS2
import Derived.Test.YtlfeiadmkoocgaaS4
import Derived.Test.YtlfeiadmkoocgaaNums
namespace Go.Proofs.Ytlfeiadmkoocgaa.Pure
open Go.RowKit Go.Proofs.Ytlfeiadmkoocgaa.S Go.Proofs.YtlfeiadmkoocgaaW.PrintWords Go.Proofs.YtlfeiadmkoocgaaW.PrintLast
set_option linter.unusedVariables false
set_option linter.unusedSimpArgs false

/-- The slot is made of a homing, some trips, and a purge; the cycle of some slots. -/
def SlotOk (m tr sl : Int) : Prop := m ≤ sl ∧ sl ≤ m + 17 * tr ∧ (sl - m) % tr = 0 ∧ 2 ≤ (sl - m) / tr
def CycOk (sl cy : Int) : Prop := sl ≤ cy ∧ cy ≤ 24 * sl ∧ cy % sl = 0
instance (m tr sl : Int) : Decidable (SlotOk m tr sl) := by unfold SlotOk; infer_instance
instance (sl cy : Int) : Decidable (CycOk sl cy) := by unfold CycOk; infer_instance
def chkF (m d tr sl cy : Int) : Int := if 1 ≤ m ∧ m ≤ 200000 ∧ 1 ≤ d ∧ d ≤ 200000 then (if tr = m + d then (if SlotOk m tr sl ∧ CycOk sl cy then 0 else 3) else 3) else 2
/-- Times that Check takes. -/
def OkT (m d tr sl cy : Int) : Prop := (1 ≤ m ∧ m ≤ 200000 ∧ 1 ≤ d ∧ d ≤ 200000) ∧ tr = m + d ∧ SlotOk m tr sl ∧ CycOk sl cy
theorem okT_of {m d tr sl cy : Int} (h : chkF m d tr sl cy = 0) : OkT m d tr sl cy := by
  unfold chkF at h
  by_cases h1 : 1 ≤ m ∧ m ≤ 200000 ∧ 1 ≤ d ∧ d ≤ 200000
  · rw [if_pos h1] at h
    by_cases h2 : tr = m + d
    · rw [if_pos h2] at h
      by_cases h3 : SlotOk m tr sl ∧ CycOk sl cy
      · exact ⟨h1, h2, h3.1, h3.2⟩
      · rw [if_neg h3] at h; simp at h
    · rw [if_neg h2] at h; simp at h
  · rw [if_neg h1] at h; simp at h
theorem chkF_ok {m d tr sl cy : Int} (h : OkT m d tr sl cy) : chkF m d tr sl cy = 0 := by
  unfold chkF; rw [if_pos h.1, if_pos h.2.1, if_pos h.2.2]

theorem slot_bounds {m tr sl : Int} (hm : 1 ≤ m ∧ m ≤ 200000) (ht : 1 ≤ tr ∧ tr ≤ 400000) (h : SlotOk m tr sl) : 1 ≤ sl ∧ sl ≤ 7000000 := by unfold SlotOk at h; omega

theorem trips_val (m d tr sl cy : Int) (ht : 1 ≤ tr) (h0 : m ≤ sl) (hm : 1 ≤ m) (h1 : I64 sl) : phase_trips.f m d tr sl cy = some ((sl - m) / tr - 1) := by
  unfold I64 at h1
  have q0 : 0 ≤ (sl - m) / tr := Int.ediv_nonneg (by omega) (by omega)
  have q1 : (sl - m) / tr ≤ sl - m := Int.ediv_le_self tr (by omega)
  rw [phase_trips.f, if_neg (show ¬ tr = 0 by omega), wrap_id (sl - m) (by omega) (by omega), Int.tdiv_eq_ediv_of_nonneg (by omega), wrap_id ((sl - m) / tr) (by omega) (by omega), wrap_id _ (by omega) (by omega)]

theorem chk_j1 (m d tr sl cy : Int) (k : Nat) (hs : 1 ≤ sl ∧ sl ≤ 7000000) (hc : I64 cy) : phase_Check.j1 (k + 1) false m d tr sl cy = some (if CycOk sl cy then 0 else 3) := by
  unfold I64 at hc
  rw [phase_Check.j1, if_neg (by decide)]
  by_cases h1 : cy < sl
  · rw [if_pos h1, if_neg (show ¬ CycOk sl cy from fun h => by unfold CycOk at h; omega)]
  rw [if_neg h1, wrap_id (24 * sl) (by omega) (by omega)]
  by_cases h2 : cy > 24 * sl
  · rw [if_pos h2, if_neg (show ¬ CycOk sl cy from fun h => by unfold CycOk at h; omega)]
  rw [if_neg h2, if_neg (show ¬ sl = 0 by omega), Int.tmod_eq_emod_of_nonneg (by omega)]
  by_cases h3 : cy % sl = 0
  · rw [if_pos h3, if_pos (show CycOk sl cy from ⟨by omega, by omega, h3⟩)]
  · rw [if_neg h3, if_neg (show ¬ CycOk sl cy from fun h => h3 h.2.2)]

theorem chk_val (m d tr sl cy : Int) (h3 : I64 tr) (h4 : I64 sl) (h5 : I64 cy) (k : Nat) (hk : 2 ≤ k) : phase_Check.f k m d tr sl cy = some (chkF m d tr sl cy) := by
  obtain ⟨k, rfl, hk⟩ := succ_of (show 1 < k by omega)
  obtain ⟨k, rfl, hk⟩ := succ_of (show 0 < k by omega)
  have big : phase_Check.j0 (k + 1 + 1) true m d tr sl cy = some 2 := by rw [phase_Check.j0, if_pos rfl]
  rw [phase_Check.f]
  unfold chkF
  by_cases a1 : m < 1
  · rw [if_pos a1, if_neg (show ¬ (1 ≤ m ∧ m ≤ 200000 ∧ 1 ≤ d ∧ d ≤ 200000) by omega), big]
  rw [if_neg a1]
  by_cases a2 : m > 200000
  · rw [if_pos a2, if_neg (show ¬ (1 ≤ m ∧ m ≤ 200000 ∧ 1 ≤ d ∧ d ≤ 200000) by omega), big]
  rw [if_neg a2]
  by_cases a3 : d < 1
  · rw [if_pos a3, if_neg (show ¬ (1 ≤ m ∧ m ≤ 200000 ∧ 1 ≤ d ∧ d ≤ 200000) by omega), big]
  rw [if_neg a3]
  by_cases a4 : d > 200000
  · rw [decide_eq_true a4, if_neg (show ¬ (1 ≤ m ∧ m ≤ 200000 ∧ 1 ≤ d ∧ d ≤ 200000) by omega), big]
  rw [decide_eq_false a4, if_pos (show 1 ≤ m ∧ m ≤ 200000 ∧ 1 ≤ d ∧ d ≤ 200000 by omega), phase_Check.j0, if_neg (by decide), wrap_id (m + d) (by omega) (by omega)]
  by_cases b : tr = m + d
  · rw [if_pos b, if_pos b]
    have bad : phase_Check.j1 (k + 1) true m d tr sl cy = some 3 := by rw [phase_Check.j1, if_pos rfl]
    by_cases c1 : sl < m
    · rw [if_pos c1, bad, if_neg (fun h => by unfold SlotOk at h; omega)]
    rw [if_neg c1, wrap_id (17 * tr) (by omega) (by omega), wrap_id (m + 17 * tr) (by omega) (by omega)]
    by_cases c2 : sl > m + 17 * tr
    · rw [if_pos c2, bad, if_neg (fun h => by unfold SlotOk at h; omega)]
    rw [if_neg c2, if_neg (show ¬ tr = 0 by omega), wrap_id (sl - m) (by omega) (by omega), Int.tmod_eq_emod_of_nonneg (by omega)]
    by_cases c3 : (sl - m) % tr = 0
    · rw [if_pos c3, trips_val m d tr sl cy (by omega) (by omega) (by omega) h4, Option.bind_some]
      by_cases c4 : (sl - m) / tr - 1 < 1
      · rw [decide_eq_true c4, bad, if_neg (fun h => by unfold SlotOk at h; omega)]
      · rw [decide_eq_false c4, chk_j1 m d tr sl cy k (by omega) h5]
        have hs : SlotOk m tr sl := ⟨by omega, by omega, c3, by omega⟩
        by_cases hc : CycOk sl cy
        · rw [if_pos hc, if_pos ⟨hs, hc⟩]
        · rw [if_neg hc, if_neg (fun h => hc h.2)]
    · rw [if_neg c3, bad, if_neg (fun h => c3 h.1.2.2.1)]
  · rw [if_neg b, if_neg b]

theorem rchk_j1 (m d tr sl cy : Int) (k : Nat) (hs : 1 ≤ sl ∧ sl ≤ 7000000) (hc : I64 cy) : tipstaffref26_Check.j1 (k + 1) false m d tr sl cy = some (if CycOk sl cy then 0 else 3) := by
  unfold I64 at hc
  rw [tipstaffref26_Check.j1, if_neg (by decide)]
  by_cases h1 : cy < sl
  · rw [if_pos h1, if_neg (show ¬ CycOk sl cy from fun h => by unfold CycOk at h; omega)]
  have q0 : 0 ≤ cy / sl := Int.ediv_nonneg (by omega) (by omega)
  have q1 : cy / sl ≤ cy := Int.ediv_le_self sl (by omega)
  rw [if_neg h1, if_neg (show ¬ sl = 0 by omega), Int.tmod_eq_emod_of_nonneg (by omega)]
  have em := Int.mul_ediv_add_emod cy sl
  by_cases h3 : cy % sl = 0
  · rw [if_pos h3, Int.tdiv_eq_ediv_of_nonneg (by omega), wrap_id (cy / sl) (by omega) (by omega)]
    by_cases h4 : cy / sl > 24
    · rw [if_pos h4, if_neg (show ¬ CycOk sl cy from ?_)]
      intro h
      unfold CycOk at h
      have : 25 * sl ≤ (cy / sl) * sl := Int.mul_le_mul_of_nonneg_right (by omega) (by omega)
      have e : sl * (cy / sl) = (cy / sl) * sl := Int.mul_comm _ _
      omega
    · rw [if_neg h4, if_pos (show CycOk sl cy from ?_)]
      have : (cy / sl) * sl ≤ 24 * sl := Int.mul_le_mul_of_nonneg_right (by omega) (by omega)
      have e : sl * (cy / sl) = (cy / sl) * sl := Int.mul_comm _ _
      exact ⟨by omega, by omega, h3⟩
  · rw [if_neg h3, if_neg (show ¬ CycOk sl cy from fun h => h3 h.2.2)]

theorem rchk_val (m d tr sl cy : Int) (h3 : I64 tr) (h4 : I64 sl) (h5 : I64 cy) (k : Nat) (hk : 2 ≤ k) : tipstaffref26_Check.f k m d tr sl cy = some (chkF m d tr sl cy) := by
  obtain ⟨k, rfl, hk⟩ := succ_of (show 1 < k by omega)
  obtain ⟨k, rfl, hk⟩ := succ_of (show 0 < k by omega)
  have big : tipstaffref26_Check.j0 (k + 1 + 1) true m d tr sl cy = some 2 := by rw [tipstaffref26_Check.j0, if_pos rfl]
  rw [tipstaffref26_Check.f]
  unfold chkF
  by_cases a1 : m < 1
  · rw [if_pos a1, if_neg (show ¬ (1 ≤ m ∧ m ≤ 200000 ∧ 1 ≤ d ∧ d ≤ 200000) by omega), big]
  rw [if_neg a1]
  by_cases a2 : m > 200000
  · rw [if_pos a2, if_neg (show ¬ (1 ≤ m ∧ m ≤ 200000 ∧ 1 ≤ d ∧ d ≤ 200000) by omega), big]
  rw [if_neg a2]
  by_cases a3 : d < 1
  · rw [if_pos a3, if_neg (show ¬ (1 ≤ m ∧ m ≤ 200000 ∧ 1 ≤ d ∧ d ≤ 200000) by omega), big]
  rw [if_neg a3]
  by_cases a4 : d > 200000
  · rw [decide_eq_true a4, if_neg (show ¬ (1 ≤ m ∧ m ≤ 200000 ∧ 1 ≤ d ∧ d ≤ 200000) by omega), big]
  rw [decide_eq_false a4, if_pos (show 1 ≤ m ∧ m ≤ 200000 ∧ 1 ≤ d ∧ d ≤ 200000 by omega), tipstaffref26_Check.j0, if_neg (by decide), wrap_id (m + d) (by omega) (by omega)]
  by_cases b : tr = m + d
  · rw [if_pos b, if_pos b, if_neg (show ¬ tr = 0 by omega)]
    have bad : tipstaffref26_Check.j1 (k + 1) true m d tr sl cy = some 3 := by rw [tipstaffref26_Check.j1, if_pos rfl]
    by_cases c1 : sl < m
    · rw [if_pos c1, bad, if_neg (fun h => by unfold SlotOk at h; omega)]
    unfold I64 at h4
    have q0 : 0 ≤ (sl - m) / tr := Int.ediv_nonneg (by omega) (by omega)
    have q1 : (sl - m) / tr ≤ sl - m := Int.ediv_le_self tr (by omega)
    have em := Int.mul_ediv_add_emod (sl - m) tr
    have e2 := Int.emod_nonneg (sl - m) (show tr ≠ 0 by omega)
    have e3 := Int.emod_lt_of_pos (sl - m) (show 0 < tr by omega)
    have ec : tr * ((sl - m) / tr) = (sl - m) / tr * tr := Int.mul_comm _ _
    rw [if_neg c1, wrap_id (sl - m) (by omega) (by omega), Int.tdiv_eq_ediv_of_nonneg (by omega), wrap_id ((sl - m) / tr) (by omega) (by omega), wrap_id ((sl - m) / tr * tr) (by omega) (by omega), wrap_id (m + _) (by omega) (by omega)]
    by_cases c3 : sl = m + (sl - m) / tr * tr
    · rw [if_pos c3]
      by_cases c4 : (sl - m) / tr < 2
      · rw [if_pos c4, bad, if_neg (fun h => by have := h.1.2.2.2; omega)]
      rw [if_neg c4]
      by_cases c5 : (sl - m) / tr > 17
      · rw [decide_eq_true c5, bad, if_neg]
        intro h
        have : 18 * tr ≤ (sl - m) / tr * tr := Int.mul_le_mul_of_nonneg_right (by omega) (by omega)
        have := h.1.2.1
        omega
      · have h17 : (sl - m) / tr * tr ≤ 17 * tr := Int.mul_le_mul_of_nonneg_right (by omega) (by omega)
        have hs : SlotOk m tr sl := ⟨by omega, by omega, by omega, by omega⟩
        rw [decide_eq_false c5, rchk_j1 m d tr sl cy k (by omega) h5]
        by_cases hc : CycOk sl cy
        · rw [if_pos hc, if_pos ⟨hs, hc⟩]
        · rw [if_neg hc, if_neg (fun h => hc h.2)]
    · rw [if_neg c3, bad, if_neg (fun h => c3 (by have := h.1.2.2.1; omega))]
  · rw [if_neg b, if_neg b]

end Go.Proofs.Ytlfeiadmkoocgaa.Pure
