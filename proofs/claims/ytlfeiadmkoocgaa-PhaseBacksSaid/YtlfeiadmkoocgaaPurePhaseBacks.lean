/- The tick of a phase, or which error: the program and the reference agree. -/
import Derived.Test.YtlfeiadmkoocgaaAskPhaseBacks
import Derived.Test.YtlfeiadmkoocgaaPh5
import Derived.Test.YtlfeiadmkoocgaaPhA
namespace Go.Proofs.Ytlfeiadmkoocgaa.Pure
open Go.RowKit Go.Proofs.Ytlfeiadmkoocgaa.S Go.Proofs.YtlfeiadmkoocgaaW.PrintWords Go.Proofs.YtlfeiadmkoocgaaW.PrintLast
set_option linter.unusedVariables false
set_option linter.unusedSimpArgs false

theorem rkind_val (part : Int) : tipstaffref26_kind.f part = some (kindE part) := kinds_val part
theorem rlen_val (m d tr sl cy part : Int) : tipstaffref26_length.f m d tr sl cy part = some (lenF m d part) := by
  unfold tipstaffref26_length.f lenF
  by_cases h : part = 3
  · rw [if_pos h, if_pos (Or.inl h)]
  · rw [if_neg h]
    by_cases h2 : part = 5
    · rw [if_pos h2, if_pos (Or.inr h2)]
    · rw [if_neg h2, if_neg (by omega)]
theorem rin_val (part : Int) : tipstaffref26_inTrip.f part = some (decide (part = 2 ∨ part = 3)) := by
  unfold tipstaffref26_inTrip.f
  by_cases h : part = 2
  · rw [if_pos h, decide_eq_true (Or.inl h)]
  · rw [if_neg h]
    by_cases h2 : part = 3
    · rw [h2]; rfl
    · rw [decide_eq_false (by omega), beq_eq_false_iff_ne.mpr h2]
theorem Tms.rbegin {m d tr sl cy : Int} {n : Nat} (T : Tms m d tr sl cy n) (part trip : Int) (h2 : 0 ≤ trip ∧ trip < n) : tipstaffref26_begin.f m d tr sl cy part trip = some (begF m d n part trip) ∧ 0 ≤ begF m d n part trip ∧ begF m d n part trip ≤ 500000000000 := by
  have hm := T.hm
  have hd := T.hd
  have hn := T.hn
  have htr := T.htr
  obtain ⟨i, rfl⟩ : ∃ i : Nat, trip = i := ⟨trip.toNat, by omega⟩
  have hi := small_mul hm hd (show i ≤ 1000000 by omega)
  have hnn := small_mul hm hd (show n ≤ 1000000 by omega)
  unfold tipstaffref26_begin.f begF
  rw [T.rtrips, htr]
  by_cases c1 : part = 1
  · rw [if_pos c1, if_pos c1]; exact ⟨rfl, by decide, by decide⟩
  rw [if_neg c1, if_neg c1]
  by_cases c2 : part = 2
  · rw [if_pos c2, if_pos c2, wrap_id ((i : Int) * (m + d)) (by omega) (by omega), wrap_id (m + (i : Int) * (m + d)) (by omega) (by omega)]; exact ⟨rfl, by omega, by omega⟩
  rw [if_neg c2, if_neg c2]
  by_cases c3 : part = 3
  · rw [if_pos c3, if_pos c3, wrap_id ((i : Int) * (m + d)) (by omega) (by omega), wrap_id (m + (i : Int) * (m + d)) (by omega) (by omega), wrap_id _ (by omega) (by omega)]; exact ⟨rfl, by omega, by omega⟩
  rw [if_neg c3, if_neg c3]
  by_cases c4 : part = 4
  · rw [if_pos c4, if_pos c4, Option.bind_some, wrap_id ((n : Int) * (m + d)) (by omega) (by omega), wrap_id (m + (n : Int) * (m + d)) (by omega) (by omega)]; exact ⟨rfl, by omega, by omega⟩
  · rw [if_neg c4, if_neg c4, Option.bind_some, wrap_id ((n : Int) * (m + d)) (by omega) (by omega), wrap_id (m + (n : Int) * (m + d)) (by omega) (by omega), wrap_id _ (by omega) (by omega)]; exact ⟨rfl, by omega, by omega⟩

theorem Tms.rtick_val {m d tr sl cy : Int} {n : Nat} (T : Tms m d tr sl cy n) (hcy : I64 cy) (slot part trip at_ : Int) (hp : kindE part = 0) (k : Nat) (hk : 100 ≤ k) : tipstaffref26_Tick.f k m d tr sl cy slot part trip at_ = some (tickV m d n sl slot part trip at_) := by
  have hb := T.hb
  have hn := T.hn
  have hm := T.hm
  have hd := T.hd
  have htr := T.htr
  have q0 : 0 ≤ 1099511627776 / sl := Int.ediv_nonneg (by omega) (by omega)
  have q1 : 1099511627776 / sl ≤ 1099511627776 := Int.ediv_le_self sl (by omega)
  obtain ⟨k, rfl⟩ : ∃ x, k = x + 2 := ⟨k - 2, by omega⟩
  rw [tipstaffref26_Tick.f, rchk_val m d tr sl cy (by unfold I64; omega) (by unfold I64; omega) hcy _ (by omega), T.ok, Option.bind_some, if_pos rfl, rkind_val, hp, Option.bind_some, tipstaffref26_Tick.j0, if_pos rfl]
  have bad : tipstaffref26_Tick.j1 (k + 1) true m d tr sl cy slot part trip at_ = some (0, 2) := by rw [tipstaffref26_Tick.j1, if_pos rfl]
  unfold tickV
  by_cases h0 : slot < 0
  · rw [if_pos h0, if_pos (Or.inl h0), bad]
  rw [if_neg h0]
  by_cases h1 : slot > 1099511627776
  · rw [if_pos h1, if_pos (Or.inr (by omega)), bad]
  rw [if_neg h1]
  have two : ∀ (hno : ¬ Has n part trip), (if slot < 0 ∨ slot > 1099511627776 / sl then ((0 : Int), (2 : Int)) else if Has n part trip then tickR sl slot at_ (begF m d n part trip) (lenF m d part) else (0, 2)) = (0, 2) := by
    intro hno
    by_cases hs : slot < 0 ∨ slot > 1099511627776 / sl
    · rw [if_pos hs]
    · rw [if_neg hs, if_neg hno]
  by_cases h2 : trip < 0
  · rw [if_pos h2, bad, two (fun h => by have := h.1; omega)]
  rw [if_neg h2, T.rtrips, Option.bind_some]
  by_cases h3 : trip ≥ (n : Int)
  · rw [if_pos h3, bad, two]
    rintro ⟨_, h⟩
    split at h <;> omega
  rw [if_neg h3, rin_val, Option.bind_some]
  obtain ⟨hbeg, hb0, hb1⟩ := T.rbegin part trip ⟨by omega, by omega⟩
  have hlen : 1 ≤ lenF m d part ∧ lenF m d part ≤ 200000 := by unfold lenF; split <;> omega
  have fin : Has n part trip → at_ ≥ 0 → tipstaffref26_Tick.j1 (k + 1) (decide (at_ ≥ lenF m d part)) m d tr sl cy slot part trip at_ = some (if slot < 0 ∨ slot > 1099511627776 / sl then ((0 : Int), (2 : Int)) else if Has n part trip then tickR sl slot at_ (begF m d n part trip) (lenF m d part) else (0, 2)) := by
    intro hh ha
    by_cases h5 : at_ ≥ lenF m d part
    · rw [decide_eq_true h5, bad]
      by_cases hs : slot < 0 ∨ slot > 1099511627776 / sl
      · rw [if_pos hs]
      · rw [if_neg hs, if_pos hh]; unfold tickR; rw [if_pos (Or.inr (Or.inl h5))]
    · rw [decide_eq_false h5, tipstaffref26_Tick.j1, if_neg (by decide), if_neg (show ¬ sl = 0 by omega), wrap_id (1099511627776 / sl) (by omega) (by omega)]
      by_cases h6 : slot > 1099511627776 / sl
      · rw [if_pos h6, if_pos (Or.inr h6)]
      · rw [if_neg h6, if_neg (show ¬ (slot < 0 ∨ slot > 1099511627776 / sl) by omega), if_pos hh, hbeg, Option.bind_some, Option.bind_some]
        have hsb := slot_bd hb (by omega) (show slot ≤ 1099511627776 / sl by omega)
        rw [wrap_id (slot * sl) (by omega) (by omega), wrap_id (slot * sl + begF m d n part trip) (by omega) (by omega), wrap_id (slot * sl + begF m d n part trip + at_) (by omega) (by omega)]
        unfold tickR
        by_cases h7 : slot * sl + begF m d n part trip + at_ > 1099511627776
        · rw [if_pos h7, if_pos (Or.inr (Or.inr (by omega)))]
        · rw [if_neg h7, if_neg (by omega)]
  by_cases hp2 : part = 2 ∨ part = 3
  · rw [if_pos (decide_eq_true hp2)]
    have hh : Has n part trip := ⟨by omega, by rw [if_pos hp2]; omega⟩
    by_cases h4 : at_ < 0
    · rw [if_pos h4, bad]
      by_cases hs : slot < 0 ∨ slot > 1099511627776 / sl
      · rw [if_pos hs]
      · rw [if_neg hs, if_pos hh]; unfold tickR; rw [if_pos (Or.inl h4)]
    · rw [if_neg h4, rlen_val, Option.bind_some]
      exact fin hh (by omega)
  · rw [if_neg (by rw [decide_eq_false hp2]; decide)]
    by_cases h5 : trip > 0
    · rw [if_pos h5, bad, two]
      rintro ⟨_, h⟩
      rw [if_neg hp2] at h; omega
    · rw [if_neg h5]
      have hh : Has n part trip := ⟨by omega, by rw [if_neg hp2]; omega⟩
      by_cases h4 : at_ < 0
      · rw [if_pos h4, bad]
        by_cases hs : slot < 0 ∨ slot > 1099511627776 / sl
        · rw [if_pos hs]
        · rw [if_neg hs, if_pos hh]; unfold tickR; rw [if_pos (Or.inl h4)]
      · rw [if_neg h4, rlen_val, Option.bind_some]
        exact fin hh (by omega)

theorem PhaseBacks : PhaseBacks.Stmt := by
  intro m d tr sl cy slot part trip at_ i0 i1 i2 i3 i4 i5 i6 i7 i8
  obtain ⟨K, hK⟩ : ∃ K : Nat, K = 200 := ⟨_, rfl⟩
  refine ⟨K, ?_⟩
  have h3 := i64_of i2
  have h4 := i64_of i3
  have h5 := i64_of i4
  obtain ⟨a, ha, hb⟩ : ∃ a : Int × Int, phase_Tick.f K m d tr sl cy slot part trip at_ = some a ∧ tipstaffref26_Tick.f K m d tr sl cy slot part trip at_ = some a := by
    obtain ⟨j, rfl⟩ : ∃ j, K = j + 1 := ⟨K - 1, by omega⟩
    by_cases hc : chkF m d tr sl cy = 0
    · have T := tms_of (okT_of hc)
      by_cases hk : kindE part = 0
      · exact ⟨_, T.tick_val h5 slot part trip at_ hk _ (by omega), T.rtick_val h5 slot part trip at_ hk _ (by omega)⟩
      · refine ⟨(0, kindE part), ?_, ?_⟩
        · rw [phase_Tick.f, chk_val m d tr sl cy h3 h4 h5 _ (by omega), Option.bind_some, if_pos hc, kinds_val, Option.bind_some, phase_Tick.j0, if_neg hk]
        · rw [tipstaffref26_Tick.f, rchk_val m d tr sl cy h3 h4 h5 _ (by omega), Option.bind_some, if_pos hc, rkind_val, Option.bind_some, tipstaffref26_Tick.j0, if_neg hk]
    · refine ⟨(0, chkF m d tr sl cy), ?_, ?_⟩
      · rw [phase_Tick.f, chk_val m d tr sl cy h3 h4 h5 _ (by omega), Option.bind_some, if_neg hc, phase_Tick.j0, if_neg hc]
      · rw [tipstaffref26_Tick.f, rchk_val m d tr sl cy h3 h4 h5 _ (by omega), Option.bind_some, if_neg hc, tipstaffref26_Tick.j0, if_neg hc]
  rw [tipstafflaw26_PhaseBacks.f, ha, hb, Option.bind_some, Option.bind_some, if_pos rfl, if_pos rfl, awake_at K (by omega), Option.bind_some]

end Go.Proofs.Ytlfeiadmkoocgaa.Pure
