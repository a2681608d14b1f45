/- What Of, First and Decision come to, of the program and of the reference. -/
import Derived.Test.YtlfeiadmkoocgaaS2
import Derived.Test.YtlfeiadmkoocgaaS7
import Derived.Test.YtlfeiadmkoocgaaS4
import Derived.Test.YtlfeiadmkoocgaaS12
import Derived.Test.YtlfeiadmkoocgaaPh2
namespace Go.Proofs.Ytlfeiadmkoocgaa.Pure
open Go.RowKit Go.Proofs.Ytlfeiadmkoocgaa.S Go.Proofs.YtlfeiadmkoocgaaW.PrintWords Go.Proofs.YtlfeiadmkoocgaaW.PrintLast
set_option linter.unusedVariables false
set_option linter.unusedSimpArgs false

/-- Valid times, with their number of trips. -/
structure Tms (m d tr sl cy : Int) (n : Nat) : Prop where
  hm : 1 ≤ m ∧ m ≤ 200000
  hd : 1 ≤ d ∧ d ≤ 200000
  htr : tr = m + d
  hn : 1 ≤ n ∧ n ≤ 16
  hsl : sl = m + (n + 1) * (m + d)
  hq : (sl - m) / tr = n + 1
  hb : 3 ≤ sl ∧ sl ≤ 7000000
  hcy : CycOk sl cy
def nF (m tr sl : Int) : Nat := ((sl - m) / tr - 1).toNat

theorem tms_of {m d tr sl cy : Int} (h : OkT m d tr sl cy) : Tms m d tr sl cy (nF m tr sl) := by
  obtain ⟨⟨h1, h2, h3, h4⟩, rfl, hs, hc⟩ := h
  have hb := slot_bounds (m := m) (tr := m + d) (sl := sl) ⟨h1, h2⟩ (by omega) hs
  obtain ⟨s1, s2, s3, s4⟩ := hs
  have em := Int.mul_ediv_add_emod (sl - m) (m + d)
  rw [s3, Int.mul_comm] at em
  unfold nF
  obtain ⟨q, hq⟩ : ∃ q : Nat, (sl - m) / (m + d) = q := ⟨((sl - m) / (m + d)).toNat, by omega⟩
  rw [hq] at em s4 ⊢
  obtain ⟨n, rfl⟩ : ∃ n : Nat, q = n + 1 := ⟨q - 1, by omega⟩
  have e1 : (((n + 1 : Nat) : Int) - 1).toNat = n := by omega
  rw [e1]
  have hn : n ≤ 16 := by
    refine Nat.le_of_not_lt fun h => ?_
    have := Int.mul_le_mul_of_nonneg_right (show (18 : Int) ≤ ((n + 1 : Nat) : Int) by omega) (show 0 ≤ m + d by omega)
    omega
  exact ⟨⟨h1, h2⟩, ⟨h3, h4⟩, rfl, ⟨by omega, hn⟩, by rw [Int.natCast_add] at em; simp at em ⊢; omega, by rw [hq]; simp, ⟨by
    have : 1 * (m + d) ≤ ((n + 1 : Nat) : Int) * (m + d) := Int.mul_le_mul_of_nonneg_right (by omega) (by omega)
    omega, hb.2⟩, hc⟩

theorem Tms.trips {m d tr sl cy : Int} {n : Nat} (T : Tms m d tr sl cy n) : phase_trips.f m d tr sl cy = some (n : Int) := by
  have := T.hm; have := T.hd; have h1 := T.htr; have := T.hb; have := T.hq
  have e : m ≤ sl := by
    have := T.hsl; have h0 : 0 ≤ ((n : Int) + 1) * (m + d) := Int.mul_nonneg (by omega) (by omega)
    omega
  rw [trips_val m d tr sl cy (by omega) e (by omega) (by unfold I64; omega), T.hq]; congr 1; omega

theorem Tms.rtrips {m d tr sl cy : Int} {n : Nat} (T : Tms m d tr sl cy n) : tipstaffref26_trips.f m d tr sl cy = some (n : Int) := T.trips

/-- The error of valid or other times and a tick. -/
def tickE (e t : Int) : Int := if e = 0 then (if t < 0 then 2 else if t > 1099511627776 then 2 else 0) else e
theorem tickE_ok {e t : Int} (h : tickE e t = 0) : e = 0 ∧ 0 ≤ t ∧ t ≤ 1099511627776 := by
  unfold tickE at h
  by_cases h1 : e = 0
  · rw [if_pos h1] at h
    by_cases h2 : t < 0
    · rw [if_pos h2] at h; simp at h
    · rw [if_neg h2] at h
      by_cases h3 : t > 1099511627776
      · rw [if_pos h3] at h; simp at h
      · exact ⟨h1, by omega, by omega⟩
  · rw [if_neg h1] at h; exact absurd h h1
theorem tickE_zero {t : Int} (h0 : 0 ≤ t) (h1 : t ≤ 1099511627776) : tickE 0 t = 0 := by unfold tickE; rw [if_pos rfl, if_neg (by omega), if_neg (by omega)]

theorem ticks_val (m d tr sl cy t : Int) (h3 : I64 tr) (h4 : I64 sl) (h5 : I64 cy) (k : Nat) (hk : 2 ≤ k) : phase_ticks.f k m d tr sl cy t = some (tickE (chkF m d tr sl cy) t) := by
  rw [phase_ticks.f, chk_val m d tr sl cy h3 h4 h5 k hk, Option.bind_some]
  unfold tickE
  by_cases h : chkF m d tr sl cy = 0
  · rw [if_pos h, if_pos h, h]; split
    · rfl
    · split <;> rfl
  · rw [if_neg h, if_neg h]

theorem asks_val (m d tr sl cy t : Int) (h3 : I64 tr) (h4 : I64 sl) (h5 : I64 cy) (k : Nat) (hk : 2 ≤ k) : tipstaffref26_asks.f k m d tr sl cy t = some (tickE (chkF m d tr sl cy) t) := by
  rw [tipstaffref26_asks.f, rchk_val m d tr sl cy h3 h4 h5 k hk, Option.bind_some]
  unfold tickE
  by_cases h : chkF m d tr sl cy = 0
  · rw [if_pos h, if_pos h, h]; split
    · rfl
    · split <;> rfl
  · rw [if_neg h, if_neg h]

/-- The phase of a tick: slot, part, trip, place. -/
def phF (m d sl : Int) (n : Nat) (t : Int) : Int × Int × Int × Int := (t / sl, (findP m d n (t % sl)).f0, (findP m d n (t % sl)).f1, t % sl - (findP m d n (t % sl)).f2)
def OfV (m d tr sl cy t : Int) : Int × Int × Int × Int × Int := if tickE (chkF m d tr sl cy) t = 0 then ((phF m d sl (nF m tr sl) t).1, (phF m d sl (nF m tr sl) t).2.1, (phF m d sl (nF m tr sl) t).2.2.1, (phF m d sl (nF m tr sl) t).2.2.2, 0) else (0, 0, 0, 0, tickE (chkF m d tr sl cy) t)

/-- Where a tick lies in its slot, and what is found there. -/
theorem Tms.place {m d tr sl cy : Int} {n : Nat} (T : Tms m d tr sl cy n) (t : Int) : 0 ≤ t % sl ∧ t % sl < sl :=
  ⟨Int.emod_nonneg t (by have := T.hb; omega), Int.emod_lt_of_pos t (by have := T.hb; omega)⟩
theorem find_cases {m d : Int} (hm : 1 ≤ m) (hd : 1 ≤ d) (n : Nat) (u : Int) (h0 : 0 ≤ u) (h1 : u < m + (n + 1) * (m + d)) :
    (u < m ∧ findP m d n u = ⟨1, 0, 0, m⟩) ∨ ∃ c : Nat, c ≤ n ∧ ∃ v : Int, 0 ≤ v ∧ v < m + d ∧ u = m + c * (m + d) + v ∧ (u - m) / (m + d) = c ∧ (u - m) % (m + d) = v ∧ ((v < m ∧ findP m d n u = oddP m d n c) ∨ (m ≤ v ∧ findP m d n u = evenP m d n c)) := by
  unfold findP
  by_cases hu : u < m
  · exact Or.inl ⟨hu, if_pos hu⟩
  · refine Or.inr ?_
    have q0 : 0 ≤ (u - m) / (m + d) := Int.ediv_nonneg (by omega) (by omega)
    have em := Int.mul_ediv_add_emod (u - m) (m + d)
    have e1 := Int.emod_nonneg (u - m) (show m + d ≠ 0 by omega)
    have e2 := Int.emod_lt_of_pos (u - m) (show 0 < m + d by omega)
    obtain ⟨c, hc⟩ : ∃ c : Nat, (u - m) / (m + d) = c := ⟨((u - m) / (m + d)).toNat, by omega⟩
    obtain ⟨v, hv⟩ : ∃ v, (u - m) % (m + d) = v := ⟨_, rfl⟩
    rw [hc, hv, Int.mul_comm] at em
    rw [hv] at e1 e2
    rw [hc, hv, if_neg hu, Int.toNat_natCast]
    refine ⟨c, ?_, v, e1, e2, by omega, rfl, rfl, ?_⟩
    · refine Nat.le_of_not_lt fun h => ?_
      have := mul_mono (t := m + d) h (by omega)
      rw [show n.succ = n + 1 from rfl, mul_succ'] at this
      have e3 : ((n : Int) + 1) * (m + d) = (n : Int) * (m + d) + (m + d) := by rw [Int.add_mul]; simp
      omega
    · by_cases h : v < m
      · rw [if_pos h]; exact Or.inl ⟨h, rfl⟩
      · rw [if_neg h]; exact Or.inr ⟨by omega, rfl⟩

theorem Tms.found {m d tr sl cy : Int} {n : Nat} (T : Tms m d tr sl cy n) (t : Int) : foundP (piecesP m d n) (t % sl) = some (findP m d n (t % sl)) := by
  have hp := T.place t
  exact found_val T.hm T.hd (by have := T.hn; omega) _ hp.1 (by have := T.hsl; omega)

/-- A piece that is found begins at or ahead of the place. -/
theorem find_from {m d : Int} (hm : 1 ≤ m) (hd : 1 ≤ d) (n : Nat) (u : Int) (h0 : 0 ≤ u) (h1 : u < m + (n + 1) * (m + d)) : 0 ≤ (findP m d n u).f2 ∧ (findP m d n u).f2 ≤ u ∧ u < (findP m d n u).f2 + (findP m d n u).f3 := by
  rcases find_cases hm hd n u h0 h1 with ⟨hu, e⟩ | ⟨c, hc, v, v0, v1, hv, _, _, ⟨a, e⟩ | ⟨a, e⟩⟩
  · rw [e]; exact ⟨by simp, h0, by simpa using hu⟩
  · have hp : 0 ≤ (c : Int) * (m + d) := Int.mul_nonneg (by omega) (by omega)
    have o3 : (oddP m d n c).f3 = m := by unfold oddP; split <;> rfl
    rw [e, oddP_f2, o3]; omega
  · have hp : 0 ≤ (c : Int) * (m + d) := Int.mul_nonneg (by omega) (by omega)
    have o3 : (evenP m d n c).f3 = d := by unfold evenP; split <;> rfl
    rw [e, evenP_f2, o3]; omega

theorem Tms.ok {m d tr sl cy : Int} {n : Nat} (T : Tms m d tr sl cy n) : chkF m d tr sl cy = 0 := by
  refine chkF_ok ⟨⟨T.hm.1, T.hm.2, T.hd.1, T.hd.2⟩, T.htr, ?_, T.hcy⟩
  have := T.hm; have := T.hd; have hn := T.hn; have h1 := T.htr; have h2 := T.hsl; have h3 := T.hq
  have p0 : 0 ≤ ((n : Int) + 1) * (m + d) := Int.mul_nonneg (by omega) (by omega)
  have p1 : ((n : Int) + 1) * (m + d) ≤ 17 * (m + d) := Int.mul_le_mul_of_nonneg_right (by omega) (by omega)
  refine ⟨by omega, by omega, ?_, by omega⟩
  rw [h1, show sl - m = ((n : Int) + 1) * (m + d) by omega]
  exact Int.mul_emod_left _ _
theorem Tms.nF {m d tr sl cy : Int} {n : Nat} (T : Tms m d tr sl cy n) : nF m tr sl = n := by
  unfold Pure.nF; rw [T.hq]; omega

theorem quot_bd {t sl : Int} (h0 : 0 ≤ t) (hs : 1 ≤ sl) : 0 ≤ t / sl ∧ t / sl ≤ t := ⟨Int.ediv_nonneg h0 (by omega), Int.ediv_le_self sl h0⟩

theorem Tms.of_val {m d tr sl cy : Int} {n : Nat} (T : Tms m d tr sl cy n) (hcy : I64 cy) (t : Int) (h0 : 0 ≤ t) (h1 : t ≤ 1099511627776) (k : Nat) (hk : 2 ≤ k) : phase_Of.f k m d tr sl cy t = some ((phF m d sl n t).1, (phF m d sl n t).2.1, (phF m d sl n t).2.2.1, (phF m d sl n t).2.2.2, 0) := by
  have hb := T.hb
  have hn := T.hn
  have := T.hm
  have := T.hd
  have := T.htr
  have hp := T.place t
  have hq := quot_bd h0 (show 1 ≤ sl by omega)
  have hf := find_from T.hm.1 T.hd.1 n (t % sl) hp.1 (by have := T.hsl; omega)
  unfold phF
  rw [phase_Of.f, ticks_val m d tr sl cy t (by unfold I64; omega) (by unfold I64; omega) hcy k hk, T.ok, tickE_zero h0 h1, Option.bind_some, if_pos rfl, T.trips, Option.bind_some, phase_pieces.f, if_pos (by omega), Option.bind_some, if_pos ⟨by omega, h0, h1⟩, T.found, Option.bind_some, wrap_id (t / sl) (by omega) (by omega), wrap_id (t % sl - _) (by omega) (by omega)]

theorem of_all (m d tr sl cy t : Int) (h3 : I64 tr) (h4 : I64 sl) (h5 : I64 cy) (k : Nat) (hk : 2 ≤ k) : phase_Of.f k m d tr sl cy t = some (OfV m d tr sl cy t) := by
  unfold OfV
  by_cases h : tickE (chkF m d tr sl cy) t = 0
  · obtain ⟨e, h0, h1⟩ := tickE_ok h
    rw [if_pos h, (tms_of (okT_of e)).of_val h5 t h0 h1 k hk]
  · rw [if_neg h, phase_Of.f, ticks_val m d tr sl cy t h3 h4 h5 k hk, Option.bind_some, if_neg h]

end Go.Proofs.Ytlfeiadmkoocgaa.Pure
