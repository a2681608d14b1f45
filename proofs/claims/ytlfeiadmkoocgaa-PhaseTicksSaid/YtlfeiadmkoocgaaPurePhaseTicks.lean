/- Which times are valid, trips and slots, the phase of a tick, the first tick of a slot and of a trip: the program and the reference agree. -/
import Derived.Test.YtlfeiadmkoocgaaAskPhaseTicks
import Derived.Test.YtlfeiadmkoocgaaPh4
import Derived.Test.YtlfeiadmkoocgaaPhA
namespace Go.Proofs.Ytlfeiadmkoocgaa.Pure
open Go.RowKit Go.Proofs.Ytlfeiadmkoocgaa.S Go.Proofs.YtlfeiadmkoocgaaW.PrintWords Go.Proofs.YtlfeiadmkoocgaaW.PrintLast
set_option linter.unusedVariables false
set_option linter.unusedSimpArgs false

theorem trips_pair (m d tr sl cy : Int) (h3 : I64 tr) (h4 : I64 sl) (h5 : I64 cy) (k : Nat) (hk : 2 ≤ k) : ∃ x, phase_Trips.f k m d tr sl cy = some (x, chkF m d tr sl cy) ∧ tipstaffref26_Trips.f k m d tr sl cy = some (x, chkF m d tr sl cy) := by
  rw [phase_Trips.f, tipstaffref26_Trips.f, chk_val m d tr sl cy h3 h4 h5 k hk, rchk_val m d tr sl cy h3 h4 h5 k hk, Option.bind_some, Option.bind_some]
  by_cases h : chkF m d tr sl cy = 0
  · have T := tms_of (okT_of h)
    rw [if_pos h, if_pos h, T.trips, T.rtrips, h]; exact ⟨_, rfl, rfl⟩
  · rw [if_neg h, if_neg h]; exact ⟨_, rfl, rfl⟩
theorem slots_pair (m d tr sl cy : Int) (h3 : I64 tr) (h4 : I64 sl) (h5 : I64 cy) (k : Nat) (hk : 2 ≤ k) : ∃ x, phase_Slots.f k m d tr sl cy = some (x, chkF m d tr sl cy) ∧ tipstaffref26_Slots.f k m d tr sl cy = some (x, chkF m d tr sl cy) := by
  rw [phase_Slots.f, tipstaffref26_Slots.f, chk_val m d tr sl cy h3 h4 h5 k hk, rchk_val m d tr sl cy h3 h4 h5 k hk, Option.bind_some]
  by_cases h : chkF m d tr sl cy = 0
  · have T := tms_of (okT_of h)
    rw [if_pos h, if_neg (show ¬ sl = 0 by have := T.hb; omega), h]; exact ⟨_, rfl, rfl⟩
  · rw [if_neg h]; exact ⟨_, rfl, rfl⟩

theorem first_pair (m d tr sl cy t : Int) (h3 : I64 tr) (h4 : I64 sl) (h5 : I64 cy) (k : Nat) (hk : 2 ≤ k) : ∃ x, phase_First.f k m d tr sl cy t = some x ∧ tipstaffref26_First.f k m d tr sl cy t = some x := by
  rw [phase_First.f, tipstaffref26_First.f, of_all m d tr sl cy t h3 h4 h5 k hk, asks_val m d tr sl cy t h3 h4 h5 k hk, Option.bind_some, Option.bind_some]
  unfold OfV
  by_cases h : tickE (chkF m d tr sl cy) t = 0
  · obtain ⟨e, h0, h1⟩ := tickE_ok h
    have T := tms_of (okT_of e)
    have hb := T.hb
    have hp := T.place t
    rw [if_pos h, if_pos h]
    dsimp only
    rw [if_pos rfl, if_neg (show ¬ sl = 0 by omega), Int.tmod_eq_emod_of_nonneg h0]
    refine ⟨_, rfl, ?_⟩
    congr 2
    unfold phF
    dsimp only
    obtain ⟨u, hu⟩ : ∃ u, t % sl = u := ⟨_, rfl⟩
    rw [hu] at hp ⊢
    rcases find_cases T.hm.1 T.hd.1 (nF m tr sl) u hp.1 (by have := T.hsl; omega) with ⟨hlt, e⟩ | ⟨c, hc, v, v0, v1, hv, ec, ev, ⟨a, e⟩ | ⟨a, e⟩⟩
    · rw [e]; simp
    · have hp : 0 ≤ (c : Int) * (m + d) := Int.mul_nonneg (by have := T.hm; have := T.hd; omega) (by have := T.hm; have := T.hd; omega)
      have hm := T.hm
      have hz : (u == 0) = false := by rw [beq_eq_false_iff_ne]; omega
      rw [e, hz]; unfold oddP; split <;> simp
    · have hp : 0 ≤ (c : Int) * (m + d) := Int.mul_nonneg (by have := T.hm; have := T.hd; omega) (by have := T.hm; have := T.hd; omega)
      have hm := T.hm
      have hz : (u == 0) = false := by rw [beq_eq_false_iff_ne]; omega
      rw [e, hz]; unfold evenP; split <;> simp
  · rw [if_neg h, if_neg h]
    dsimp only
    rw [if_neg h]
    exact ⟨_, rfl, rfl⟩

theorem dec_pair (m d tr sl cy t : Int) (h3 : I64 tr) (h4 : I64 sl) (h5 : I64 cy) (k : Nat) (hk : 2 ≤ k) : ∃ x, phase_Decision.f k m d tr sl cy t = some x ∧ tipstaffref26_Decision.f k m d tr sl cy t = some x := by
  rw [phase_Decision.f, tipstaffref26_Decision.f, of_all m d tr sl cy t h3 h4 h5 k hk, rof_all m d tr sl cy t h3 h4 h5 k hk, Option.bind_some, Option.bind_some]
  unfold OfV
  by_cases h : tickE (chkF m d tr sl cy) t = 0
  · rw [if_pos h]
    dsimp only
    rw [if_pos rfl]
    refine ⟨_, rfl, ?_⟩
    by_cases h2 : (phF m d sl (nF m tr sl) t).2.1 = 2
    · rw [if_pos h2, h2]; simp
    · rw [if_neg h2]; congr 2; simp [h2]
  · rw [if_neg h]
    dsimp only
    rw [if_neg h, if_neg (by decide)]
    exact ⟨_, rfl, rfl⟩

theorem PhaseTicks : PhaseTicks.Stmt := by
  intro m d tr sl cy t h1 h2 h3 h4 h5 h6
  have h3 := i64_of h3
  have h4 := i64_of h4
  have h5 := i64_of h5
  obtain ⟨K, hK⟩ : ∃ K : Nat, K = 100 := ⟨_, rfl⟩
  refine ⟨K + 1 + 1, ?_⟩
  obtain ⟨x, x1, x2⟩ := trips_pair m d tr sl cy h3 h4 h5 (K + 1 + 1) (by omega)
  obtain ⟨y, y1, y2⟩ := slots_pair m d tr sl cy h3 h4 h5 (K + 1 + 1) (by omega)
  obtain ⟨z, z1, z2⟩ := first_pair m d tr sl cy t h3 h4 h5 K (by omega)
  obtain ⟨u, u1, u2⟩ := dec_pair m d tr sl cy t h3 h4 h5 K (by omega)
  rw [tipstafflaw26_PhaseTicks.f, x1, Option.bind_some, x2, Option.bind_some, y1, Option.bind_some, y2, Option.bind_some, chk_val m d tr sl cy h3 h4 h5 _ (by omega), Option.bind_some, rchk_val m d tr sl cy h3 h4 h5 _ (by omega), Option.bind_some]
  dsimp only
  rw [if_pos rfl, if_pos rfl, if_pos rfl, if_pos rfl, tipstafflaw26_PhaseTicks.j0, if_neg (by simp), of_all m d tr sl cy t h3 h4 h5 _ (by omega), Option.bind_some, rof_all m d tr sl cy t h3 h4 h5 _ (by omega), Option.bind_some, if_neg (by simp), tipstafflaw26_PhaseTicks.j1, if_neg (by simp), z1, Option.bind_some, z2, Option.bind_some, u1, Option.bind_some, u2, Option.bind_some, if_pos (by simp), if_pos rfl, if_pos (by simp), if_pos rfl, awake_at K (by omega), Option.bind_some]

end Go.Proofs.Ytlfeiadmkoocgaa.Pure
