/- The counts of all parts are together the ticks, and a whole slot has so many of each. -/
import Derived.Test.YtlfeiadmkoocgaaS15
import Derived.Test.YtlfeiadmkoocgaaPh8
import Derived.Test.YtlfeiadmkoocgaaPh7
import Derived.Test.YtlfeiadmkoocgaaPhA
namespace Go.Proofs.Ytlfeiadmkoocgaa.Pure
open Go.RowKit Go.Proofs.Ytlfeiadmkoocgaa.S Go.Proofs.YtlfeiadmkoocgaaW.PrintWords Go.Proofs.YtlfeiadmkoocgaaW.PrintLast
set_option linter.unusedVariables false
set_option linter.unusedSimpArgs false

theorem pre_two (u b x y : Int) (hx : 0 ≤ x) (hy : 0 ≤ y) : pre u b x + pre u (b + x) y = pre u b (x + y) := by
  unfold pre mn mx
  repeat' split
  all_goals omega

theorem trips_pre {m d u : Int} (hm : 1 ≤ m) (hd : 1 ≤ d) : ∀ k i : Nat, preSum m d u 0 m k i + preSum m d u m d k i = pre u (m + i * (m + d)) (k * (m + d))
  | 0, i => by
    have : pre u (m + i * (m + d)) 0 = 0 := by have := pre_bd u (m + i * (m + d)) 0 (by omega); omega
    simp [preSum, this]
  | k + 1, i => by
    have ih := trips_pre (u := u) hm hd k (i + 1)
    have e1 := mul_succ' i (m + d)
    have e2 := mul_succ' k (m + d)
    have pk : 0 ≤ (k : Int) * (m + d) := Int.mul_nonneg (by omega) (by omega)
    have t1 := pre_two u (m + i * (m + d)) m d (by omega) (by omega)
    have t2 := pre_two u (m + i * (m + d)) (m + d) (k * (m + d)) (by omega) pk
    rw [preSum, preSum, Int.add_zero, e2, show (k : Int) * (m + d) + (m + d) = (m + d) + k * (m + d) by omega, ← t2, ← t1]
    rw [e1, show m + ((i : Int) * (m + d) + (m + d)) = m + i * (m + d) + (m + d) by omega] at ih
    omega

theorem some_sum {m d u : Int} (hm : 1 ≤ m) (hd : 1 ≤ d) (n : Nat) (h0 : 0 ≤ u) (h1 : u ≤ m + ((n : Int) + 1) * (m + d)) : someF m d n 1 u + someF m d n 2 u + someF m d n 3 u + someF m d n 4 u + someF m d n 5 u = u := by
  have s1 : someF m d n 1 u = pre u 0 m := rfl
  have s2 : someF m d n 2 u = preSum m d u 0 m n 0 := rfl
  have s3 : someF m d n 3 u = preSum m d u m d n 0 := rfl
  have s4 : someF m d n 4 u = pre u (m + n * (m + d)) m := rfl
  have s5 : someF m d n 5 u = pre u (m + n * (m + d) + m) d := rfl
  have pn : 0 ≤ (n : Int) * (m + d) := Int.mul_nonneg (by omega) (by omega)
  have e3 : ((n : Int) + 1) * (m + d) = (n : Int) * (m + d) + (m + d) := by rw [Int.add_mul]; simp
  have t := trips_pre (u := u) hm hd n 0
  have z : m + ((0 : Nat) : Int) * (m + d) = m := by simp
  rw [z] at t
  have a1 := pre_two u 0 m (n * (m + d)) (by omega) pn
  rw [Int.zero_add] at a1
  have a2 := pre_two u (m + n * (m + d)) m d (by omega) (by omega)
  have a3 := pre_two u 0 (m + n * (m + d)) (m + d) (by omega) (by omega)
  rw [Int.zero_add] at a3
  have a4 : pre u 0 (m + n * (m + d) + (m + d)) = u := by
    unfold pre mn mx
    repeat' split
    all_goals omega
  omega

theorem whole_sum (m d : Int) (n : Nat) : wholeF m d n 1 + wholeF m d n 2 + wholeF m d n 3 + wholeF m d n 4 + wholeF m d n 5 = m + ((n : Int) + 1) * (m + d) := by
  have s1 : wholeF m d n 1 = m := rfl
  have s2 : wholeF m d n 2 = n * m := rfl
  have s3 : wholeF m d n 3 = n * d := rfl
  have s4 : wholeF m d n 4 = m := rfl
  have s5 : wholeF m d n 5 = d := rfl
  have e3 : ((n : Int) + 1) * (m + d) = (n : Int) * m + n * d + (m + d) := by rw [Int.add_mul, Int.mul_add]; simp
  omega

theorem pre_mono {u v : Int} (b len : Int) (h : u ≤ v) (hl : 0 ≤ len) : pre u b len ≤ pre v b len := by
  unfold pre mn mx
  repeat' split
  all_goals omega
theorem preSum_mono {m d u v : Int} (off len : Int) (h : u ≤ v) (hl : 0 ≤ len) : ∀ k i, preSum m d u off len k i ≤ preSum m d v off len k i
  | 0, i => by simp [preSum]
  | k + 1, i => by
    rw [preSum, preSum]
    have := preSum_mono (m := m) (d := d) off len h hl k (i + 1)
    have := pre_mono (m + i * (m + d) + off) len h hl
    omega
theorem some_mono {m d u v : Int} (hm : 1 ≤ m) (hd : 1 ≤ d) (n : Nat) (part : Int) (h : u ≤ v) : someF m d n part u ≤ someF m d n part v := by
  have a1 := pre_mono 0 m h (by omega)
  have a2 := preSum_mono (m := m) (d := d) 0 m h (by omega) n 0
  have a3 := preSum_mono (m := m) (d := d) m d h (by omega) n 0
  have a4 := pre_mono (m + n * (m + d)) m h (by omega)
  have a5 := pre_mono (m + n * (m + d) + m) d h (by omega)
  unfold someF
  repeat' split
  all_goals omega

/-- Counts are not below 0. -/
theorem Tms.bef_mono {m d tr sl cy : Int} {n : Nat} (T : Tms m d tr sl cy n) (part a b : Int) (h0 : 0 ≤ a) (hab : a ≤ b) : befV m d sl n part a ≤ befV m d sl n part b := by
  have hb := T.hb
  have hq : a / sl ≤ b / sl := Int.ediv_le_ediv (by omega) hab
  have w := whole_bd T.hm T.hd T.hn.2 part
  have s1 := some_bd T.hm T.hd n part (a % sl)
  have s2 := some_bd T.hm T.hd n part (b % sl)
  unfold befV
  by_cases h : a / sl = b / sl
  · have d1 := Int.mul_ediv_add_emod a sl
    have d2 := Int.mul_ediv_add_emod b sl
    rw [h] at d1 ⊢
    have := some_mono T.hm.1 T.hd.1 n part (show a % sl ≤ b % sl by omega)
    omega
  · have := Int.mul_le_mul_of_nonneg_right (show a / sl + 1 ≤ b / sl by omega) w.1
    rw [Int.add_mul] at this
    omega
theorem Tms.bef_slot {m d tr sl cy : Int} {n : Nat} (T : Tms m d tr sl cy n) (part a : Int) : befV m d sl n part (a + sl) - befV m d sl n part a = wholeF m d n part := by
  have hb := T.hb
  have e1 : (a + sl) / sl = a / sl + 1 := by
    have := Int.add_mul_ediv_right a 1 (show sl ≠ 0 by omega)
    rwa [Int.one_mul] at this
  have e2 : (a + sl) % sl = a % sl := Int.add_emod_right a sl
  unfold befV
  rw [e1, e2, Int.add_mul]
  omega
theorem Tms.bef_sum {m d tr sl cy : Int} {n : Nat} (T : Tms m d tr sl cy n) (t : Int) : befV m d sl n 1 t + befV m d sl n 2 t + befV m d sl n 3 t + befV m d sl n 4 t + befV m d sl n 5 t = t := by
  have hb := T.hb
  have hp := T.place t
  have hsl := T.hsl
  have s := some_sum T.hm.1 T.hd.1 n hp.1 (by omega)
  have w := whole_sum m d n
  rw [← hsl] at w
  have dm := Int.mul_ediv_add_emod t sl
  rw [Int.mul_comm] at dm
  have e : t / sl * wholeF m d n 1 + t / sl * wholeF m d n 2 + t / sl * wholeF m d n 3 + t / sl * wholeF m d n 4 + t / sl * wholeF m d n 5 = t / sl * sl := by
    rw [← w]; simp only [Int.mul_add]
  unfold befV
  omega

theorem Tms.len_val {m d tr sl cy : Int} {n : Nat} (T : Tms m d tr sl cy n) (hcy : I64 cy) (part : Int) (hp : kindE part = 0) (k : Nat) (hk : 3 ≤ k) : phase_Length.f k m d tr sl cy part = some (lenF m d part, 0) := by
  obtain ⟨k, rfl, hk⟩ := succ_of (show 2 < k by omega)
  have hb := T.hb
  have htr := T.htr
  have hm := T.hm
  have hd := T.hd
  rw [phase_Length.f, chk_val m d tr sl cy (by unfold I64; omega) (by unfold I64; omega) hcy _ (by omega), T.ok, Option.bind_some, if_pos rfl, kinds_val, hp, Option.bind_some, phase_Length.j0, if_pos rfl]
  unfold lenF
  by_cases h3 : part = 3
  · rw [if_pos h3, if_pos (Or.inl h3)]
  · rw [if_neg h3]
    by_cases h5 : part = 5
    · rw [if_pos h5, if_pos (Or.inr h5)]
    · rw [if_neg h5, if_neg (by omega)]

theorem sums_step {m d tr sl cy : Int} {n : Nat} (T : Tms m d tr sl cy n) (hcy : I64 cy) (a b acc part : Int) (h0 : 0 ≤ a) (hab : a ≤ b) (h1 : b ≤ 1000000) (hs : sl ≤ 1000) (hp : 1 ≤ part ∧ part ≤ 5) (hacc : 0 ≤ acc ∧ acc ≤ 9000000000000000) (hd : befV m d sl n part b - befV m d sl n part a ≤ 1000000) (k : Nat) (hk : 3 ≤ k) (q : Int) (hq : part + 1 = q) :
    tipstafflaw26_PhaseSums.l0 (k + 3) (n : Int) a b acc part m d tr sl cy = tipstafflaw26_PhaseSums.l0 k (n : Int) a b (acc + (befV m d sl n part b - befV m d sl n part a)) q m d tr sl cy := by
  subst hq
  have hb := T.hb
  have hn := T.hn
  have hm := T.hm
  have hdd := T.hd
  have hke : kindE part = 0 := by unfold kindE; rw [if_neg (by omega)]
  have mono := T.bef_mono part a b h0 hab
  have c1 : (n : Int) * m ≤ 16 * m := Int.mul_le_mul_of_nonneg_right (by omega) (by omega)
  have c2 : (n : Int) * d ≤ 16 * d := Int.mul_le_mul_of_nonneg_right (by omega) (by omega)
  have c3 : 0 ≤ (n : Int) * m := Int.mul_nonneg (by omega) (by omega)
  have c4 : 0 ≤ (n : Int) * d := Int.mul_nonneg (by omega) (by omega)
  rw [tipstafflaw26_PhaseSums.l0, if_pos hp.2, T.count_val hcy a b part h0 hab (by omega) hke _ (by omega), Option.bind_some, wrap_id (a + sl) (by omega) (by omega), T.count_val hcy a (a + sl) part h0 (by omega) (by omega) hke _ (by omega), Option.bind_some, T.len_val hcy part hke _ (by omega), Option.bind_some]
  dsimp only
  rw [if_pos rfl, if_pos rfl, if_pos rfl, T.bef_slot, decide_eq_false (by omega), tipstafflaw26_PhaseSums.j2, if_neg (by decide)]
  have hc : part = 1 ∨ part = 2 ∨ part = 3 ∨ part = 4 ∨ part = 5 := by omega
  have w0 := wrap_id (acc + (befV m d sl n part b - befV m d sl n part a)) (by omega) (by omega)
  have w1 := wrap_id (part + 1) (by omega) (by omega)
  by_cases h2 : part = 2
  · have : wholeF m d n part = wrap64 (n * lenF m d part) := by subst h2; show n * m = wrap64 (n * m); rw [wrap_id _ (by omega) (by omega)]
    rw [if_pos h2, tipstafflaw26_PhaseSums.j3, if_pos rfl, if_pos this, w0, w1]
  · rw [if_neg h2]
    by_cases h3 : part = 3
    · have : wholeF m d n part = wrap64 (n * lenF m d part) := by subst h3; show n * d = wrap64 (n * d); rw [wrap_id _ (by omega) (by omega)]
      rw [show (part == 3) = true by simp [h3], tipstafflaw26_PhaseSums.j3, if_pos rfl, if_pos this, w0, w1]
    · have : wholeF m d n part = lenF m d part := by
        rcases hc with rfl | rfl | rfl | rfl | rfl
        · rfl
        · omega
        · omega
        · rfl
        · rfl
      rw [show (part == 3) = false by simp [h3], tipstafflaw26_PhaseSums.j3, if_neg (by decide), if_pos this, w0, w1]

theorem sums_all {m d tr sl cy : Int} {n : Nat} (T : Tms m d tr sl cy n) (hcy : I64 cy) (a b : Int) (h0 : 0 ≤ a) (hab : a ≤ b) (h1 : b ≤ 1000000) (hs : sl ≤ 1000) (K : Nat) (hK : 100 ≤ K) : tipstafflaw26_PhaseSums.l0 (K + 1 + 3 + 3 + 3 + 3 + 3) (n : Int) a b 0 1 m d tr sl cy = some true := by
  have sa := T.bef_sum a
  have sb := T.bef_sum b
  have m1 := T.bef_mono 1 a b h0 hab
  have m2 := T.bef_mono 2 a b h0 hab
  have m3 := T.bef_mono 3 a b h0 hab
  have m4 := T.bef_mono 4 a b h0 hab
  have m5 := T.bef_mono 5 a b h0 hab
  rw [sums_step T hcy a b 0 1 h0 hab h1 hs (by omega) (by omega) (by omega) _ (by omega) 2 rfl, sums_step T hcy a b _ 2 h0 hab h1 hs (by omega) (by omega) (by omega) _ (by omega) 3 rfl, sums_step T hcy a b _ 3 h0 hab h1 hs (by omega) (by omega) (by omega) _ (by omega) 4 rfl, sums_step T hcy a b _ 4 h0 hab h1 hs (by omega) (by omega) (by omega) _ (by omega) 5 rfl, sums_step T hcy a b _ 5 h0 hab h1 hs (by omega) (by omega) (by omega) _ (by omega) 6 rfl, tipstafflaw26_PhaseSums.l0, if_neg (by omega), wrap_id (b - a) (by omega) (by omega), if_pos, awake_at K (by omega), Option.bind_some]
  omega

theorem PhaseSums : tipstafflaw26_PhaseSums.Pure := by
  intro a0 a1 a2 h0 h1 h2
  obtain ⟨m, d, n, s, S, hmade⟩ := made_val a0 (i64_of h0)
  have T := S.tms
  have hb := S.bds
  have := S.m; have := S.d; have hn := S.n; have hs := S.s
  obtain ⟨sl, hsl⟩ : ∃ sl, m + ((n : Int) + 1) * (m + d) = sl := ⟨_, rfl⟩
  rw [hsl] at T hb hmade
  obtain ⟨cy, hcy⟩ : ∃ cy, (s : Int) * sl = cy := ⟨_, rfl⟩
  rw [hcy] at T hb hmade
  have hcI : I64 cy := by unfold I64; omega
  obtain ⟨x, hx⟩ : ∃ x, a1 % (3 * cy) = x := ⟨_, rfl⟩
  have x0 := Int.emod_nonneg a1 (show 3 * cy ≠ 0 by omega)
  have x1 := Int.emod_lt_of_pos a1 (show 0 < 3 * cy by omega)
  obtain ⟨y, hy⟩ : ∃ y, a2 % (3 * cy) = y := ⟨_, rfl⟩
  have y0 := Int.emod_nonneg a2 (show 3 * cy ≠ 0 by omega)
  have y1 := Int.emod_lt_of_pos a2 (show 0 < 3 * cy by omega)
  rw [hx] at x0 x1
  rw [hy] at y0 y1
  obtain ⟨K, hK⟩ : ∃ K : Nat, K = 100 := ⟨_, rfl⟩
  refine ⟨K + 1 + 3 + 3 + 3 + 3 + 3 + 1, ?_⟩
  rw [tipstafflaw26_PhaseSums.f, hmade, Option.bind_some]
  dsimp only
  rw [wrap_id (3 * cy) (by omega) (by omega), mod_val a1 _ (i64_of h1) (by omega) (by omega), hx, Option.bind_some, mod_val a2 _ (i64_of h2) (by omega) (by omega), hy, Option.bind_some]
  by_cases h : y < x
  · rw [if_pos h, tipstafflaw26_PhaseSums.j0]
    exact sums_all T hcI y x y0 (by omega) (by omega) (by omega) K (by omega)
  · rw [if_neg h, tipstafflaw26_PhaseSums.j0]
    exact sums_all T hcI x y x0 (by omega) (by omega) (by omega) K (by omega)

end Go.Proofs.Ytlfeiadmkoocgaa.Pure
