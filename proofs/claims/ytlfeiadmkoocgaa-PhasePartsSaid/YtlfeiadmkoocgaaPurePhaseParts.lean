/- How long a part is, when it begins next, and how many of its ticks there are between two others: the program and the reference agree. -/
import Derived.Test.YtlfeiadmkoocgaaAskPhaseParts
import Derived.Test.YtlfeiadmkoocgaaS6
import Derived.Test.YtlfeiadmkoocgaaS16
import Derived.Test.YtlfeiadmkoocgaaS17
import Derived.Test.YtlfeiadmkoocgaaS18
import Derived.Test.YtlfeiadmkoocgaaS5
import Derived.Test.YtlfeiadmkoocgaaS4
import Derived.Test.YtlfeiadmkoocgaaPh6
import Derived.Test.YtlfeiadmkoocgaaPh8
namespace Go.Proofs.Ytlfeiadmkoocgaa.Pure
open Go.RowKit Go.Proofs.Ytlfeiadmkoocgaa.S Go.Proofs.YtlfeiadmkoocgaaW.PrintWords Go.Proofs.YtlfeiadmkoocgaaW.PrintLast
set_option linter.unusedVariables false
set_option linter.unusedSimpArgs false

theorem awake_twenty : tipstafflaw26_awake.f 60 = some true := by decide +kernel
theorem awake_more : ∀ d : Nat, tipstafflaw26_awake.f (60 + d) = some true
  | 0 => awake_twenty
  | d + 1 => tipstafflaw26_awake.mono _ _ (awake_more d)
theorem awake_at (k : Nat) (h : 60 ≤ k) : tipstafflaw26_awake.f k = some true := by
  have := awake_more (k - 60)
  rwa [show 60 + (k - 60) = k by omega] at this

theorem rkind_val (part : Int) : tipstaffref26_kind.f part = some (kindE part) := kinds_val part

theorem Tms.rbegin {m d tr sl cy : Int} {n : Nat} (T : Tms m d tr sl cy n) (part trip : Int) (h : 0 ≤ trip ∧ trip ≤ 1000000) : tipstaffref26_begin.f m d tr sl cy part trip = some (begF m d n part trip) := by
  have hm := T.hm
  have hd := T.hd
  have hn := T.hn
  have htr := T.htr
  have p0 : 0 ≤ trip * (m + d) := Int.mul_nonneg h.1 (by omega)
  have p1 : trip * (m + d) ≤ 1000000 * (m + d) := Int.mul_le_mul_of_nonneg_right h.2 (by omega)
  have p2 := small_mul (i := n) hm hd (by omega)
  unfold begF
  rw [tipstaffref26_begin.f, T.rtrips, htr]
  simp only [Option.bind_some]
  rw [wrap_id (trip * (m + d)) (by omega) (by omega), wrap_id (m + trip * (m + d)) (by omega) (by omega), wrap_id (m + trip * (m + d) + m) (by omega) (by omega), wrap_id ((n : Int) * (m + d)) (by omega) (by omega), wrap_id (m + (n : Int) * (m + d)) (by omega) (by omega), wrap_id (m + (n : Int) * (m + d) + m) (by omega) (by omega)]
  by_cases h1 : part = 1
  · rw [if_pos h1, if_pos h1]
  rw [if_neg h1, if_neg h1]
  by_cases h2 : part = 2
  · rw [if_pos h2, if_pos h2]
  rw [if_neg h2, if_neg h2]
  by_cases h3 : part = 3
  · rw [if_pos h3, if_pos h3]
  rw [if_neg h3, if_neg h3]
  by_cases h4 : part = 4
  · rw [if_pos h4, if_pos h4]
  · rw [if_neg h4, if_neg h4]

theorem rlen_val (m d tr sl cy part : Int) : tipstaffref26_length.f m d tr sl cy part = some (lenF m d part) := by
  unfold tipstaffref26_length.f lenF
  by_cases h3 : part = 3
  · rw [if_pos h3, if_pos (Or.inl h3)]
  · rw [if_neg h3]
    by_cases h5 : part = 5
    · rw [if_pos h5, if_pos (Or.inr h5)]
    · rw [if_neg h5, if_neg (by omega)]

theorem beg_has {m d : Int} {n : Nat} (hn : 1 ≤ n) {part : Int} (hp : 1 ≤ part ∧ part ≤ 5) (i : Nat) (hi : i < n) : ∃ trip, Has n part trip ∧ begF m d n part i = begF m d n part trip := by
  by_cases h : part = 2 ∨ part = 3
  · exact ⟨i, ⟨by omega, by rw [if_pos h]; omega⟩, rfl⟩
  · refine ⟨0, ⟨by omega, by rw [if_neg h]⟩, ?_⟩
    unfold begF
    rw [if_neg (show ¬ part = 2 by omega), if_neg (show ¬ part = 3 by omega), if_neg (show ¬ part = 2 by omega), if_neg (show ¬ part = 3 by omega)]
theorem has_nat {n : Nat} (hn : 1 ≤ n) {part trip : Int} (h : Has n part trip) : ∃ j : Nat, trip = j ∧ j < n := by
  obtain ⟨a, b⟩ := h
  refine ⟨trip.toNat, by omega, ?_⟩
  split at b <;> omega

theorem Tms.rnext_loop {m d tr sl cy : Int} {n : Nat} (T : Tms m d tr sl cy n) (t part : Int) (h0 : 0 ≤ t) (h1 : t ≤ 1099511627776) (hp : 1 ≤ part ∧ part ≤ 5) : ∀ (e : Nat) (best : Int), e ≤ n → t < best → best ≤ t + 2 * sl → Starts m d n sl part best →
    (∀ x, Starts m d n sl part x → t < x → best ≤ x ∨ ∃ j : Nat, j < e ∧ x = t / sl * sl + begF m d n part j) → ∃ N, IsNext m d n sl part t N ∧ ∀ k, e + 1 ≤ k → tipstaffref26_Next.l0 k t part (t / sl * sl) best ((e : Int) - 1) m d tr sl cy = some (nextR N)
  | 0, best, he, hb, hb2, hs, hx => by
    refine ⟨best, ⟨hb, hs, fun x a b => ?_⟩, fun k hk => ?_⟩
    · rcases hx x a b with h | ⟨j, hj, _⟩
      · exact h
      · omega
    · obtain ⟨k, rfl⟩ : ∃ x, k = x + 1 := ⟨k - 1, by omega⟩
      rw [tipstaffref26_Next.l0, if_neg (by omega)]
      unfold nextR; split <;> rfl
  | e + 1, best, he, hb, hb2, hs, hx => by
    have hbb := T.hb
    have hn := T.hn
    have hsl := T.hsl
    obtain ⟨trip, hh, etr⟩ := beg_has (m := m) (d := d) hn.1 hp e (by omega)
    have hbd := beg_bd T.hm T.hd T.hn hp hh
    rw [← etr] at hbd
    have dt := split_of t (show 1 ≤ sl by omega)
    have hpl := T.place t
    have hq := quot_bd h0 (show 1 ≤ sl by omega)
    have hqs := Int.mul_nonneg hq.1 (show 0 ≤ sl by omega)
    have hc : Starts m d n sl part (t / sl * sl + begF m d n part e) := ⟨by omega, trip, hh, by rw [← etr]; exact (split_at (show 1 ≤ sl by omega) (t / sl) _ hbd.1 (by omega) rfl).2⟩
    have w : wrap64 (t / sl * sl + begF m d n part e) = t / sl * sl + begF m d n part e := wrap_id _ (by omega) (by omega)
    have st : ∀ k, tipstaffref26_Next.l0 (k + 1) t part (t / sl * sl) best (((e + 1 : Nat) : Int) - 1) m d tr sl cy = tipstaffref26_Next.l0 k t part (t / sl * sl) (if t < t / sl * sl + begF m d n part e ∧ t / sl * sl + begF m d n part e < best then t / sl * sl + begF m d n part e else best) ((e : Int) - 1) m d tr sl cy := fun k => by
      rw [show (((e + 1 : Nat) : Int) - 1) = (e : Int) by omega, tipstaffref26_Next.l0, if_pos (by omega), T.rbegin part e (by omega), Option.bind_some, w, wrap_id ((e : Int) - 1) (by omega) (by omega)]
      by_cases h1 : t / sl * sl + begF m d n part e > t
      · rw [if_pos h1]
        by_cases h2 : t / sl * sl + begF m d n part e < best
        · rw [if_pos h2, if_pos ⟨h1, h2⟩]
        · rw [if_neg h2, if_neg (fun h => h2 h.2)]
      · rw [if_neg h1, if_neg (fun h => h1 h.1)]
    by_cases hcc : t < t / sl * sl + begF m d n part e ∧ t / sl * sl + begF m d n part e < best
    · obtain ⟨N, hN, fN⟩ := T.rnext_loop t part h0 h1 hp e (t / sl * sl + begF m d n part e) (by omega) hcc.1 (by omega) hc (fun x a b => by
        rcases hx x a b with h | ⟨j, hj, ej⟩
        · exact Or.inl (by omega)
        · by_cases hje : j = e
          · subst hje; exact Or.inl (by omega)
          · exact Or.inr ⟨j, by omega, ej⟩)
      refine ⟨N, hN, fun k hk => ?_⟩
      obtain ⟨k, rfl⟩ : ∃ x, k = x + 1 := ⟨k - 1, by omega⟩
      rw [st, if_pos hcc]
      exact fN k (by omega)
    · obtain ⟨N, hN, fN⟩ := T.rnext_loop t part h0 h1 hp e best (by omega) hb hb2 hs (fun x a b => by
        rcases hx x a b with h | ⟨j, hj, ej⟩
        · exact Or.inl h
        · by_cases hje : j = e
          · subst hje; exact Or.inl (by omega)
          · exact Or.inr ⟨j, by omega, ej⟩)
      refine ⟨N, hN, fun k hk => ?_⟩
      obtain ⟨k, rfl⟩ : ∃ x, k = x + 1 := ⟨k - 1, by omega⟩
      rw [st, if_neg hcc]
      exact fN k (by omega)

theorem Tms.rnext_val {m d tr sl cy : Int} {n : Nat} (T : Tms m d tr sl cy n) (hcy : I64 cy) (t part : Int) (h0 : 0 ≤ t) (h1 : t ≤ 1099511627776) (hp : kindE part = 0) : ∃ N, IsNext m d n sl part t N ∧ ∀ k, 300 ≤ k → tipstaffref26_Next.f k m d tr sl cy t part = some (nextR N) := by
  have hb := T.hb
  have hn := T.hn
  have htr := T.htr
  have hm := T.hm
  have hd := T.hd
  have hsl := T.hsl
  have hp5 := kindE_ok hp
  have dt := split_of t (show 1 ≤ sl by omega)
  have hpl := T.place t
  have hq := quot_bd h0 (show 1 ≤ sl by omega)
  have hh : Has n part 0 := ⟨by omega, by split <;> omega⟩
  have hbd := beg_bd T.hm T.hd T.hn hp5 hh
  have e1 : (t / sl + 1) * sl = t / sl * sl + sl := by rw [Int.add_mul]; omega
  have hqs := Int.mul_nonneg hq.1 (show 0 ≤ sl by omega)
  have hst : Starts m d n sl part (t / sl * sl + sl + begF m d n part 0) := ⟨by omega, 0, hh, (split_at (show 1 ≤ sl by omega) (t / sl + 1) _ hbd.1 (by omega) (by omega)).2⟩
  obtain ⟨N, hN, fN⟩ := T.rnext_loop t part h0 h1 hp5 n (t / sl * sl + sl + begF m d n part 0) (Nat.le_refl _) (by omega) (by omega) hst (fun x hx htx => by
    obtain ⟨x0, trip, hxh, ex⟩ := hx
    have dx := split_of x (show 1 ≤ sl by omega)
    have hmn := slot_mono (show 1 ≤ sl by omega) (show t ≤ x by omega)
    by_cases hs : x / sl = t / sl
    · obtain ⟨j, rfl, hj⟩ := has_nat hn.1 hxh
      exact Or.inr ⟨j, hj, by rw [hs, ex] at dx; exact dx⟩
    · have g := slot_le (show 1 ≤ sl by omega) (show t / sl + 1 ≤ x / sl by omega)
      have := (beg_bd T.hm T.hd T.hn hp5 hxh).2.2.2.2
      left; omega)
  refine ⟨N, hN, fun k hk => ?_⟩
  obtain ⟨k, rfl⟩ : ∃ x, k = x + 1 := ⟨k - 1, by omega⟩
  rw [tipstaffref26_Next.f, asks_val m d tr sl cy t (by unfold I64; omega) (by unfold I64; omega) hcy _ (by omega), T.ok, tickE_zero h0 h1, Option.bind_some, if_pos rfl, rkind_val, hp, Option.bind_some, tipstaffref26_Next.j0, if_pos rfl, if_neg (show ¬ sl = 0 by omega), T.rbegin part 0 (by omega), Option.bind_some, T.rtrips, Option.bind_some, Int.tmod_eq_emod_of_nonneg h0, wrap_id (t - t % sl) (by omega) (by omega), show t - t % sl = t / sl * sl by omega, wrap_id (t / sl * sl + sl) (by omega) (by omega), wrap_id (t / sl * sl + sl + _) (by omega) (by omega), wrap_id ((n : Int) - 1) (by omega) (by omega)]
  exact fN k (by omega)

/-- The rests of trips i, i + 1, .. -/
def rsum (m d : Int) (n : Nat) (part u : Int) : Nat → Nat → Int
  | 0, _ => 0
  | k + 1, i => pre u (begF m d n part i) (lenF m d part) + rsum m d n part u k (i + 1)
theorem rsum_bd {m d : Int} (hm : 1 ≤ m ∧ m ≤ 200000) (hd : 1 ≤ d ∧ d ≤ 200000) (n : Nat) (part u : Int) : ∀ k i, 0 ≤ rsum m d n part u k i ∧ rsum m d n part u k i ≤ k * 200000
  | 0, i => by simp [rsum]
  | k + 1, i => by
    have := rsum_bd hm hd n part u k (i + 1)
    have hl : 1 ≤ lenF m d part ∧ lenF m d part ≤ 200000 := by unfold lenF; split <;> omega
    have := pre_bd u (begF m d n part i) (lenF m d part) (by omega)
    rw [rsum]; omega

theorem Tms.rbef_loop {m d tr sl cy : Int} {n : Nat} (T : Tms m d tr sl cy n) (t part : Int) (h0 : 0 ≤ t) (many : Nat) (hmany : many ≤ 16) : ∀ (k i : Nat) (acc : Int), i + k = many → 0 ≤ acc → acc ≤ 4000000000000000000 + i * 200000 → ∀ r, k + 1 ≤ r →
    tipstaffref26_before.l0 r t part (many : Int) acc (i : Int) m d tr sl cy = some (acc + rsum m d n part (t % sl) k i) := by
  intro k
  induction k with
  | zero =>
    intro i acc hi ha hb r hr
    obtain ⟨r, rfl⟩ : ∃ x, r = x + 1 := ⟨r - 1, by omega⟩
    rw [tipstaffref26_before.l0, if_neg (by omega), rsum, Int.add_zero]
  | succ k ih =>
    intro i acc hi ha hb r hr
    have hbb := T.hb
    have hn := T.hn
    have hm := T.hm
    have hd := T.hd
    have hpl := T.place t
    have hl : 1 ≤ lenF m d part ∧ lenF m d part ≤ 200000 := by unfold lenF; split <;> omega
    have hp := pre_bd (t % sl) (begF m d n part i) (lenF m d part) (by omega)
    have hbg : 0 ≤ begF m d n part i ∧ begF m d n part i ≤ 900000000000 := by
      have p0 := small_mul (i := i) hm hd (by omega)
      have p2 := small_mul (i := n) hm hd (by omega)
      unfold begF
      repeat' split
      all_goals omega
    obtain ⟨r, rfl⟩ : ∃ x, r = x + 1 := ⟨r - 1, by omega⟩
    rw [tipstaffref26_before.l0, if_pos (by omega), if_neg (show ¬ sl = 0 by omega), T.rbegin part i (by omega), Option.bind_some, rlen_val, Option.bind_some, Int.tmod_eq_emod_of_nonneg h0, wrap_id (t % sl - _) (by omega) (by omega)]
    have e : mn (mx (t % sl - begF m d n part i) 0) (lenF m d part) = pre (t % sl) (begF m d n part i) (lenF m d part) := rfl
    rw [e, wrap_id (acc + _) (by omega) (by omega), wrap_succ i (by omega), ih (i + 1) _ (by omega) (by omega) (by omega) r (by omega), rsum]
    congr 1; omega

theorem rsum_two (m d : Int) (n : Nat) (u : Int) : ∀ k i, rsum m d n 2 u k i = preSum m d u 0 m k i
  | 0, i => rfl
  | k + 1, i => by rw [rsum, preSum, rsum_two m d n u k (i + 1), Int.add_zero]; rfl
theorem rsum_three (m d : Int) (n : Nat) (u : Int) : ∀ k i, rsum m d n 3 u k i = preSum m d u m d k i
  | 0, i => rfl
  | k + 1, i => by rw [rsum, preSum, rsum_three m d n u k (i + 1)]; rfl

theorem Tms.rbefore_val {m d tr sl cy : Int} {n : Nat} (T : Tms m d tr sl cy n) (part t : Int) (hp : 1 ≤ part ∧ part ≤ 5) (h0 : 0 ≤ t) (h1 : t ≤ 1099511627776) (k : Nat) (hk : 30 ≤ k) : tipstaffref26_before.f k m d tr sl cy t part = some (befV m d sl n part t) := by
  have hb := T.hb
  have hn := T.hn
  have hm := T.hm
  have hd := T.hd
  have hq := quot_bd h0 (show 1 ≤ sl by omega)
  obtain ⟨k, rfl⟩ : ∃ x, k = x + 1 := ⟨k - 1, by omega⟩
  have hl : 1 ≤ lenF m d part ∧ lenF m d part ≤ 200000 := by unfold lenF; split <;> omega
  have j0v : ∀ many : Nat, many ≤ 16 → (many : Int) * lenF m d part = wholeF m d n part → rsum m d n part (t % sl) many 0 = someF m d n part (t % sl) → tipstaffref26_before.j0 (k + 1) t part (many : Int) m d tr sl cy = some (befV m d sl n part t) := by
    intro many hmany hw hs
    have b := befV_bd hm hd hn.2 hb.1 part t h0 h1
    have c0 : 0 ≤ t / sl * (many : Int) := Int.mul_nonneg hq.1 (by omega)
    have c1 : t / sl * (many : Int) ≤ 1099511627776 * (many : Int) := Int.mul_le_mul_of_nonneg_right (by omega) (by omega)
    have e : t / sl * (many : Int) * lenF m d part = t / sl * wholeF m d n part := by rw [Int.mul_assoc, hw]
    rw [tipstaffref26_before.j0, if_neg (show ¬ sl = 0 by omega), rlen_val, Option.bind_some, Int.tdiv_eq_ediv_of_nonneg h0, wrap_id (t / sl) (by omega) (by omega), wrap_id (t / sl * (many : Int)) (by omega) (by omega), e, wrap_id (t / sl * _) (by omega) (by omega)]
    have lp := T.rbef_loop t part h0 many hmany many 0 (t / sl * wholeF m d n part) (by omega) b.1 (by omega) k (by omega)
    rw [show ((0 : Nat) : Int) = 0 from rfl] at lp
    rw [lp, hs]; rfl
  have hc : part = 1 ∨ part = 2 ∨ part = 3 ∨ part = 4 ∨ part = 5 := by omega
  rw [tipstaffref26_before.f, tipstaffref26_inTrip.f]
  rcases hc with rfl | rfl | rfl | rfl | rfl
  · rw [if_neg (by decide), Option.bind_some, if_neg (by decide)]
    exact j0v 1 (by omega) (by show 1 * m = m; omega) (by show pre (t % sl) 0 m + 0 = pre (t % sl) 0 m; omega)
  · rw [if_pos rfl, Option.bind_some, if_pos rfl, T.rtrips, Option.bind_some]
    exact j0v n hn.2 rfl (rsum_two m d n (t % sl) n 0)
  · rw [if_neg (by decide), Option.bind_some, if_pos (by decide), T.rtrips, Option.bind_some]
    exact j0v n hn.2 rfl (rsum_three m d n (t % sl) n 0)
  · rw [if_neg (by decide), Option.bind_some, if_neg (by decide)]
    exact j0v 1 (by omega) (by show 1 * m = m; omega) (by show pre (t % sl) (m + n * (m + d)) m + 0 = pre (t % sl) (m + n * (m + d)) m; omega)
  · rw [if_neg (by decide), Option.bind_some, if_neg (by decide)]
    exact j0v 1 (by omega) (by show 1 * d = d; omega) (by show pre (t % sl) (m + n * (m + d) + m) d + 0 = pre (t % sl) (m + n * (m + d) + m) d; omega)

theorem len_pair (m d tr sl cy part : Int) (h3 : I64 tr) (h4 : I64 sl) (h5 : I64 cy) (k : Nat) (hk : 3 ≤ k) : ∃ x, phase_Length.f k m d tr sl cy part = some x ∧ tipstaffref26_Length.f k m d tr sl cy part = some x := by
  obtain ⟨k, rfl, hk⟩ := succ_of (show 2 < k by omega)
  rw [phase_Length.f, tipstaffref26_Length.f, chk_val m d tr sl cy h3 h4 h5 _ (by omega), rchk_val m d tr sl cy h3 h4 h5 _ (by omega), Option.bind_some, Option.bind_some]
  by_cases h : chkF m d tr sl cy = 0
  · rw [if_pos h, if_pos h, kinds_val, rkind_val, Option.bind_some, Option.bind_some, phase_Length.j0]
    by_cases h2 : kindE part = 0
    · rw [if_pos h2, if_pos h2, rlen_val, Option.bind_some]
      unfold lenF
      by_cases h3 : part = 3
      · rw [if_pos h3, if_pos (Or.inl h3)]; exact ⟨_, rfl, rfl⟩
      · rw [if_neg h3]
        by_cases h5 : part = 5
        · rw [if_pos h5, if_pos (Or.inr h5)]; exact ⟨_, rfl, rfl⟩
        · rw [if_neg h5, if_neg (by omega)]; exact ⟨_, rfl, rfl⟩
    · rw [if_neg h2, if_neg h2]; exact ⟨_, rfl, rfl⟩
  · rw [if_neg h, if_neg h, phase_Length.j0, if_neg h]; exact ⟨_, rfl, rfl⟩

theorem next_pair (m d tr sl cy t part : Int) (h3 : I64 tr) (h4 : I64 sl) (h5 : I64 cy) (k : Nat) (hk : 300 ≤ k) : ∃ x, phase_Next.f k m d tr sl cy t part = some x ∧ tipstaffref26_Next.f k m d tr sl cy t part = some x := by
  by_cases h : tickE (chkF m d tr sl cy) t = 0
  · obtain ⟨e, h0, h1⟩ := tickE_ok h
    have T := tms_of (okT_of e)
    by_cases h2 : kindE part = 0
    · obtain ⟨N, hN, fN⟩ := T.next_val h5 t part h0 h1 h2
      obtain ⟨M, hM, fM⟩ := T.rnext_val h5 t part h0 h1 h2
      obtain rfl := hN.eq hM
      exact ⟨_, fN k hk, fM k hk⟩
    · obtain ⟨k, rfl⟩ : ∃ x, k = x + 1 := ⟨k - 1, by omega⟩
      rw [phase_Next.f, tipstaffref26_Next.f, ticks_val m d tr sl cy t h3 h4 h5 _ (by omega), asks_val m d tr sl cy t h3 h4 h5 _ (by omega), Option.bind_some, Option.bind_some, if_pos h, if_pos h, kinds_val, rkind_val, Option.bind_some, Option.bind_some, phase_Next.j0, tipstaffref26_Next.j0, if_neg h2, if_neg h2]
      exact ⟨_, rfl, rfl⟩
  · obtain ⟨k, rfl⟩ : ∃ x, k = x + 1 := ⟨k - 1, by omega⟩
    rw [phase_Next.f, tipstaffref26_Next.f, ticks_val m d tr sl cy t h3 h4 h5 _ (by omega), asks_val m d tr sl cy t h3 h4 h5 _ (by omega), Option.bind_some, Option.bind_some, if_neg h, if_neg h, phase_Next.j0, tipstaffref26_Next.j0, if_neg h, if_neg h]
    exact ⟨_, rfl, rfl⟩

theorem count_pair (m d tr sl cy a b part : Int) (h3 : I64 tr) (h4 : I64 sl) (h5 : I64 cy) (k : Nat) (hk : 100 ≤ k) : ∃ x, phase_Count.f k m d tr sl cy a b part = some x ∧ tipstaffref26_Count.f k m d tr sl cy a b part = some x := by
  obtain ⟨k, rfl⟩ : ∃ x, k = x + 3 := ⟨k - 3, by omega⟩
  by_cases h : chkF m d tr sl cy = 0
  · have T := tms_of (okT_of h)
    by_cases h2 : kindE part = 0
    · by_cases h6 : a < 0 ∨ b < a ∨ b > 1099511627776
      · refine ⟨(0, 2), ?_, ?_⟩
        · rw [phase_Count.f, chk_val m d tr sl cy h3 h4 h5 _ (by omega), h, Option.bind_some, if_pos rfl, kinds_val, h2, Option.bind_some, if_pos rfl, if_pos h6]
        · rw [tipstaffref26_Count.f, rchk_val m d tr sl cy h3 h4 h5 _ (by omega), h, Option.bind_some, if_pos rfl, rkind_val, h2, Option.bind_some, tipstaffref26_Count.j0, if_pos rfl]
          have big : tipstaffref26_Count.j1 (k + 1 + 1) a b part 0 true m d tr sl cy = some (0, 2) := by
            rw [tipstaffref26_Count.j1, if_pos rfl, tipstaffref26_Count.j2, if_neg (by decide)]
          by_cases c1 : a < 0
          · rw [if_pos c1, big]
          rw [if_neg c1]
          by_cases c2 : b < a
          · rw [if_pos c2, big]
          rw [if_neg c2, decide_eq_true (by omega), big]
      · refine ⟨_, T.count_val h5 a b part (by omega) (by omega) (by omega) h2 _ (by omega), ?_⟩
        have b1 := befV_bd T.hm T.hd T.hn.2 T.hb.1 part a (by omega) (by omega)
        have b2 := befV_bd T.hm T.hd T.hn.2 T.hb.1 part b (by omega) (by omega)
        rw [tipstaffref26_Count.f, rchk_val m d tr sl cy h3 h4 h5 _ (by omega), h, Option.bind_some, if_pos rfl, rkind_val, h2, Option.bind_some, tipstaffref26_Count.j0, if_pos rfl, if_neg (by omega), if_neg (by omega), decide_eq_false (by omega), tipstaffref26_Count.j1, if_neg (by decide), tipstaffref26_Count.j2, if_pos rfl, T.rbefore_val part b (kindE_ok h2) (by omega) (by omega) _ (by omega), Option.bind_some, T.rbefore_val part a (kindE_ok h2) (by omega) (by omega) _ (by omega), Option.bind_some, wrap_id _ (by omega) (by omega)]
    · refine ⟨(0, kindE part), ?_, ?_⟩
      · rw [phase_Count.f, chk_val m d tr sl cy h3 h4 h5 _ (by omega), h, Option.bind_some, if_pos rfl, kinds_val, Option.bind_some, if_neg h2]
      · rw [tipstaffref26_Count.f, rchk_val m d tr sl cy h3 h4 h5 _ (by omega), h, Option.bind_some, if_pos rfl, rkind_val, Option.bind_some, tipstaffref26_Count.j0, if_neg h2, tipstaffref26_Count.j1, if_neg (by decide), tipstaffref26_Count.j2, if_neg h2]
  · refine ⟨(0, chkF m d tr sl cy), ?_, ?_⟩
    · rw [phase_Count.f, chk_val m d tr sl cy h3 h4 h5 _ (by omega), Option.bind_some, if_neg h, Option.bind_some, if_neg h]
    · rw [tipstaffref26_Count.f, rchk_val m d tr sl cy h3 h4 h5 _ (by omega), Option.bind_some, if_neg h, tipstaffref26_Count.j0, if_neg h, tipstaffref26_Count.j1, if_neg (by decide), tipstaffref26_Count.j2, if_neg h]

theorem PhaseParts : PhaseParts.Stmt := by
  intro m d tr sl cy a b part h1 h2 h3 h4 h5 h6 h7 h8
  have h3 := i64_of h3
  have h4 := i64_of h4
  have h5 := i64_of h5
  obtain ⟨K, hK⟩ : ∃ K : Nat, K = 400 := ⟨_, rfl⟩
  refine ⟨K + 1, ?_⟩
  obtain ⟨x, x1, x2⟩ := len_pair m d tr sl cy part h3 h4 h5 (K + 1) (by omega)
  obtain ⟨y, y1, y2⟩ := next_pair m d tr sl cy a part h3 h4 h5 (K + 1) (by omega)
  obtain ⟨z, z1, z2⟩ := count_pair m d tr sl cy a b part h3 h4 h5 K (by omega)
  rw [tipstafflaw26_PhaseParts.f, x1, Option.bind_some, x2, Option.bind_some, y1, Option.bind_some, y2, Option.bind_some, if_pos rfl, if_pos rfl, if_pos rfl, tipstafflaw26_PhaseParts.j0, if_neg (by simp), z1, Option.bind_some, z2, Option.bind_some, if_pos rfl, if_pos rfl, awake_at K (by omega), Option.bind_some]

end Go.Proofs.Ytlfeiadmkoocgaa.Pure
