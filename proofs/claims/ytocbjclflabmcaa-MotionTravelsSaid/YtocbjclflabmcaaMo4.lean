/- Another goal, braking, and the rides of the chapter before. -/
import Derived.Test.YtocbjclflabmcaaMo
import Derived.Test.YtocbjclflabmcaaS18
namespace Go.Proofs.Ytocbjclflabmcaa.Pure
open Go.RowKit Go.Proofs.Ytocbjclflabmcaa.S Go.Proofs.YtocbjclflabmcaaW.PrintWords Go.Proofs.YtocbjclflabmcaaW.PrintLast
set_option linter.unusedVariables false
set_option linter.unusedSimpArgs false

theorem near_bounds {p g s m : Int} (h : Ok p g s m) : 0 ≤ nearV p g s ∧ nearV p g s ≤ 63000 ∧ dist p (nearV p g s) = (if s = 0 then 0 else tT (s - 1)) ∧ (0 < s → wayV p g * (g - nearV p g s) = dist p g - tT (s - 1)) := by
  have := h.s0; have := h.p0; have := h.p1; have := h.g0; have := h.g1
  unfold nearV
  by_cases c : s = 0
  · rw [if_pos c, if_pos c]; exact ⟨h.p0, h.p1, dist_zero.2 rfl, fun e => by omega⟩
  · rw [if_neg c, if_neg c]
    have h1 := (h.st (by omega)).2
    have h3 := tT_nonneg (s - 1)
    rcases way_cases p g with ⟨e0, e⟩ | ⟨e0, e⟩ <;> rw [e] <;> unfold dist at * <;> (repeat' split at h1) <;> refine ⟨by omega, by omega, by split <;> omega, fun _ => by split <;> omega⟩

theorem turn_val {p g s m : Int} (h : Ok p g s m) (goal : Int) (h0 : 0 ≤ goal) (h1 : goal ≤ 63000) (hw : 0 < s → 0 ≤ wayV p g * (goal - nearV p g s)) :
    motion_Turn.f p g s m goal = some (p, goal, if goal = p then 0 else s, m, 0) := by
  unfold motion_Turn.f motion_place.f
  have hb := near_bounds h
  rw [nearest_val h, Option.bind_some, if_pos rfl, if_pos h0, decide_eq_true h1, Option.map_some, if_neg (by decide)]
  rw [if_neg]
  rintro ⟨hs, hc⟩
  have h2 := hw hs
  simp only at hc
  rw [wrap_id (goal - nearV p g s) (by omega) (by omega)] at hc
  rcases way_cases p g with ⟨_, e⟩ | ⟨_, e⟩ <;> rw [e] at hc h2
  · rw [wrap_id _ (by omega) (by omega)] at hc; omega
  · rw [wrap_id _ (by omega) (by omega)] at hc; omega

theorem tT_lt {a b : Int} (h : a < b) (hb : 1 ≤ b) : tT a < tT b := by
  have := tT_step b hb
  have := tT_le (show a ≤ b - 1 by omega)
  omega

/-- The ticks of a motion that brakes. -/
theorem brake {g m : Int} : ∀ (n : Nat) (p s : Int), Ok p g s m → dist p g = tT n → (n = 0 ∨ s = (n : Int) + 1) → (posX p g s m).length = n
  | 0, p, s, h, hd, _ => by
    rw [posX_nil h (dist_zero.1 hd)]; rfl
  | n + 1, p, s, h, hd, hc => by
    have hs : s = (n : Int) + 1 + 1 := by rcases hc with hc | hc <;> omega
    have h1 := tT_step ((n : Int) + 1) (by omega)
    rw [show ((n : Int) + 1 - 1) = n by omega] at h1
    rw [show ((n + 1 : Nat) : Int) = (n : Int) + 1 by omega] at hd
    have h2 := tT_nonneg (n : Int)
    have hne : ¬ p = g := fun e => by have := dist_zero.2 e; omega
    obtain ⟨p', s', v, t⟩ := tick_main h hne
    have hv := t.nx
    have hl1 := tT_lt (show (n : Int) + 1 < s by omega) (by omega)
    have hl2 := tT_lt (show s < s + 1 by omega) (by omega)
    unfold nx at hv
    rw [hd, if_neg (fun e => by have := e.2; omega), if_neg (by omega)] at hv
    have hd2 := t.hd
    rw [posX_cons h hne t, List.length_cons, brake n p' s' t.ok (by omega) (by
      rcases Nat.eq_zero_or_pos n with e | e
      · exact .inl e
      · right
        have h3 := tT_lt (show 0 < (n : Int) by omega) (by omega)
        rw [tT_zero] at h3
        rw [t.hs, if_neg (fun e2 => by have := dist_zero.2 e2; omega)]
        omega)]

/-! ### The rides of profile's specification -/
theorem r8tri (v : Int) : tipstaffref08_tri.f v = some (triV v) := rfl
theorem r8_at (k : Nat) (s d m v : Int) (h0 : wrap64 (s - 1) ≤ v) (h1 : 0 ≤ v) (h2 : v ≤ 21) (hm : v ≤ m) (ht : tT v ≤ d) : tipstaffref08_next.l0 (k + 1) s d m v = some v := by
  rw [tipstaffref08_next.l0, if_pos h0, if_pos h1, if_pos hm, r8tri, Option.bind_some, tT_val v h1 h2, if_pos ht]
theorem r8_down (k : Nat) (s d m v : Int) (h0 : wrap64 (s - 1) ≤ v) (h1 : 0 ≤ v) (h2 : v ≤ 21) (ht : ¬ (v ≤ m ∧ tT v ≤ d)) : tipstaffref08_next.l0 (k + 1) s d m v = tipstaffref08_next.l0 k s d m (v - 1) := by
  rw [tipstaffref08_next.l0, if_pos h0, if_pos h1, wrap_id (v - 1) (by omega) (by omega)]
  by_cases c : v ≤ m
  · rw [if_pos c, r8tri, Option.bind_some, tT_val v h1 h2, if_neg (fun e => ht ⟨c, e⟩)]
  · rw [if_neg c]
theorem r8next {p g s m : Int} (h : Ok p g s m) (hne : ¬ p = g) (k : Nat) (hk : 3 ≤ k) : tipstaffref08_next.f k s (dist p g) m = some (nx s (dist p g) m) := by
  obtain ⟨k, rfl⟩ : ∃ j, k = j + 1 + 1 + 1 := ⟨k - 3, by omega⟩
  have sp := nx_spec h hne
  have := h.s0; have := h.s1; have := h.m1
  unfold tipstaffref08_next.f
  have e0 : wrap64 (s + 1) = s + 1 := wrap_id _ (by omega) (by omega)
  have e1 : wrap64 (s - 1) = s - 1 := wrap_id _ (by omega) (by omega)
  rw [e0]
  unfold nx at sp ⊢
  by_cases c1 : s + 1 ≤ m ∧ tT (s + 1) ≤ dist p g
  · rw [if_pos c1, r8_at _ _ _ _ _ (by omega) (by omega) (by omega) c1.1 c1.2]
  · rw [if_neg c1] at sp ⊢
    rw [r8_down _ _ _ _ _ (by omega) (by omega) (by omega) c1, show s + 1 - 1 = s by omega]
    by_cases c2 : tT s ≤ dist p g
    · rw [if_pos c2, r8_at _ _ _ _ _ (by omega) (by omega) (by omega) (by omega) c2]
    · rw [if_neg c2] at sp ⊢
      rw [r8_down _ _ _ _ _ (by omega) (by omega) (by omega) (fun e => c2 e.2), r8_at _ _ _ _ _ (by omega) (by omega) (by omega) (by omega) sp.2.2.1]

/-- A ride goes on as a motion does; at the motion's end the ride's last speed does not matter. -/
theorem ride_loop {g m : Int} : ∀ p s, Ok p g s m → ∀ (k : Nat) (c pk sp : Int), (¬ p = g → sp = s) → (posX p g s m).length + 5 ≤ k → 0 ≤ c → c + (posX p g s m).length ≤ 200000 →
    ∃ q, tipstaffref08_ride.l0 k m c pk sp (dist p g) = some (c + (posX p g s m).length, q) := by
  refine along ?_ ?_
  · intro p s h he k c pk sp hsp hk hc hb
    rw [posX_nil h he] at hk ⊢
    obtain ⟨k, rfl⟩ : ∃ j, k = j + 1 := ⟨k - 1, by omega⟩
    rw [tipstaffref08_ride.l0, if_neg (by rw [dist_zero.2 he]; omega)]
    exact ⟨pk, by simp⟩
  · intro p s p' s' v h hne t ih k c pk sp hsp hk hc hb
    rw [posX_cons h hne t, List.length_cons] at hk hb ⊢
    obtain ⟨k, rfl⟩ : ∃ j, k = j + 1 := ⟨k - 1, by omega⟩
    have h0 := dist_nonneg p g
    have h1 : ¬ dist p g = 0 := fun e => hne (dist_zero.1 e)
    have hle := dist_le h
    have hd := t.hd
    have vd := t.vd
    have v1 := t.v1
    rw [hsp hne, tipstaffref08_ride.l0, if_pos (by omega), r8next h hne k (by omega), ← t.nx, Option.bind_some, wrap_id (c + 1) (by omega) (by omega), wrap_id (dist p g - v) (by omega) (by omega), ← hd]
    obtain ⟨q, hq⟩ := ih k (c + 1) (mx pk v) v (fun e => by rw [t.hs, if_neg e]) (by omega) (by omega) (by omega)
    exact ⟨q, by rw [hq]; congr 2; omega⟩
theorem travel_val {p g m : Int} (h : Ok p g 0 m) (k : Nat) (hk : 63010 ≤ k) : tipstaffref08_Travel.f k (dist p g) m = some (((posX p g 0 m).length : Int), 0) := by
  have hl := (posX_spec h).2
  have hle := dist_le h
  have h0 := dist_nonneg p g
  have := h.m0; have := h.m1
  unfold tipstaffref08_Travel.f tipstaffref08_asks.f
  rw [if_neg (by omega), if_neg (by omega), if_neg (by omega), if_neg (by omega), Option.bind_some, if_pos rfl]
  unfold tipstaffref08_ride.f
  obtain ⟨q, hq⟩ := ride_loop p 0 h k 0 0 0 (fun _ => rfl) (by omega) (by omega) (by omega)
  rw [hq, Option.bind_some]
  simp

end Go.Proofs.Ytocbjclflabmcaa.Pure
