/- How many ticks of a part lie ahead of a place of a slot. -/
import Derived.Test.YtlfeiadmkoocgaaPh2
import Derived.Test.YtlfeiadmkoocgaaHbefore
namespace Go.Proofs.Ytlfeiadmkoocgaa.Pure
open Go.RowKit Go.Proofs.Ytlfeiadmkoocgaa.S Go.Proofs.YtlfeiadmkoocgaaW.PrintWords Go.Proofs.YtlfeiadmkoocgaaW.PrintLast
set_option linter.unusedVariables false
set_option linter.unusedSimpArgs false

/-- How much of a piece of some length lies before u, if it begins at b. -/
def pre (u b len : Int) : Int := mn (mx (u - b) 0) len
theorem pre_bd (u b len : Int) (h : 0 ≤ len) : 0 ≤ pre u b len ∧ pre u b len ≤ len := by unfold pre mn mx; omega
/-- The same of trips i, i + 1, .. -/
def preSum (m d u off len : Int) : Nat → Nat → Int
  | 0, _ => 0
  | k + 1, i => pre u (m + i * (m + d) + off) len + preSum m d u off len k (i + 1)
theorem preSum_bd (m d u off len : Int) (h : 0 ≤ len) : ∀ k i, 0 ≤ preSum m d u off len k i ∧ preSum m d u off len k i ≤ k * len
  | 0, i => by simp [preSum]
  | k + 1, i => by
    have := preSum_bd m d u off len h k (i + 1)
    have h1 := pre_bd u (m + i * (m + d) + off) len h
    rw [preSum, mul_succ']; omega

def wholeF (m d : Int) (n : Nat) (part : Int) : Int := if part = 1 then m else if part = 2 then n * m else if part = 3 then n * d else if part = 4 then m else if part = 5 then d else 0
def someF (m d : Int) (n : Nat) (part u : Int) : Int := if part = 1 then pre u 0 m else if part = 2 then preSum m d u 0 m n 0 else if part = 3 then preSum m d u m d n 0 else if part = 4 then pre u (m + n * (m + d)) m else if part = 5 then pre u (m + n * (m + d) + m) d else 0

theorem rd57_drop (l : List S57) (i : Nat) (h : i < l.length) : l.drop i = rd_T57 l (i : Int) :: l.drop (i + 1) := by
  rw [rd57_nat l i h]; exact List.drop_eq_getElem_cons h

theorem bef_trip {m d : Int} (hm : 1 ≤ m ∧ m ≤ 200000) (hd : 1 ≤ d ∧ d ≤ 200000) {n : Nat} (hn : n ≤ 1000) {l : List S57} (U : Upto m d n (n + 1) l) (part u : Int) (hu : 0 ≤ u ∧ u ≤ 1000000000000) (i : Nat) (hi : i ≤ n) (a b : Int) (ha : 0 ≤ a ∧ a ≤ 1000000000000) (hb : 0 ≤ b ∧ b ≤ 1000000000000) :
    befL part u (l.drop (2 * i + 1)) a b = if part = (oddP m d n i).f0 then befL part u (l.drop (2 * (i + 1) + 1)) (a + m) (b + pre u (m + i * (m + d)) m) else if part = (evenP m d n i).f0 then befL part u (l.drop (2 * (i + 1) + 1)) (a + d) (b + pre u (m + i * (m + d) + m) d) else befL part u (l.drop (2 * (i + 1) + 1)) a b := by
  have hl := U.len
  have hs := small_mul (i := i) hm hd (by omega)
  rw [rd57_drop l (2 * i + 1) (by omega), rd57_drop l (2 * i + 1 + 1) (by omega), U.odd i (by omega), show 2 * i + 1 + 1 = 2 * i + 2 by omega, U.even i (by omega), show 2 * i + 2 + 1 = 2 * (i + 1) + 1 by omega, befL, befL]
  have o2 := oddP_f2 m d n i
  have e2 := evenP_f2 m d n i
  have o3 : (oddP m d n i).f3 = m := by unfold oddP; split <;> rfl
  have e3 : (evenP m d n i).f3 = d := by unfold evenP; split <;> rfl
  have on : (oddP m d n i).f0 ≠ (evenP m d n i).f0 := by unfold oddP evenP; split <;> simp
  rw [o2, e2, o3, e3]
  have p1 := pre_bd u (m + i * (m + d)) m (by omega)
  have p2 := pre_bd u (m + i * (m + d) + m) d (by omega)
  by_cases h1 : part = (oddP m d n i).f0
  · rw [if_pos h1.symm, if_neg (fun e => on (h1.symm.trans e.symm)), if_pos h1, wrap_id _ (by omega) (by omega), wrap_id (u - _) (by omega) (by omega)]
    show befL part u _ (a + m) (wrap64 (b + pre u (m + i * (m + d)) m)) = _
    rw [wrap_id _ (by omega) (by omega)]
  · rw [if_neg (fun e => h1 e.symm), if_neg h1, befL, e2, e3]
    by_cases h2 : part = (evenP m d n i).f0
    · rw [if_pos h2.symm, if_pos h2, wrap_id _ (by omega) (by omega), wrap_id (u - _) (by omega) (by omega)]
      show befL part u _ (a + d) (wrap64 (b + pre u (m + i * (m + d) + m) d)) = _
      rw [wrap_id _ (by omega) (by omega)]
    · rw [if_neg (fun e => h2 e.symm), if_neg h2]

theorem bef_trips {m d : Int} (hm : 1 ≤ m ∧ m ≤ 200000) (hd : 1 ≤ d ∧ d ≤ 200000) {n : Nat} (hn : n ≤ 1000) {l : List S57} (U : Upto m d n (n + 1) l) (part u : Int) (hu : 0 ≤ u ∧ u ≤ 1000000000000) : ∀ (k i : Nat), i + k = n → ∀ (a b : Int), (0 ≤ a ∧ a ≤ i * 1000000) → (0 ≤ b ∧ b ≤ i * 1000000) →
    befL part u (l.drop (2 * i + 1)) a b = befL part u (l.drop (2 * n + 1)) (a + if part = 2 then k * m else if part = 3 then k * d else 0) (b + if part = 2 then preSum m d u 0 m k i else if part = 3 then preSum m d u m d k i else 0)
  | 0, i, h, a, b, ha, hb => by
    obtain rfl : i = n := by omega
    simp [preSum]
  | k + 1, i, h, a, b, ha, hb => by
    have o0 : (oddP m d n i).f0 = 2 := by unfold oddP; rw [if_neg (by omega)]
    have e0 : (evenP m d n i).f0 = 3 := by unfold evenP; rw [if_neg (by omega)]
    have p1 := pre_bd u (m + i * (m + d)) m (by omega)
    have p2 := pre_bd u (m + i * (m + d) + m) d (by omega)
    rw [bef_trip hm hd hn U part u hu i (by omega) a b (by omega) (by omega), o0, e0]
    by_cases h2 : part = 2
    · rw [if_pos h2, bef_trips hm hd hn U part u hu k (i + 1) (by omega) _ _ (by omega) (by omega)]
      simp only [if_pos h2]
      rw [preSum, mul_succ', Int.add_zero]
      congr 1 <;> omega
    · rw [if_neg h2]
      by_cases h3 : part = 3
      · rw [if_pos h3, bef_trips hm hd hn U part u hu k (i + 1) (by omega) _ _ (by omega) (by omega)]
        simp only [if_neg h2, if_pos h3]
        rw [preSum, mul_succ']
        congr 1 <;> omega
      · rw [if_neg h3, bef_trips hm hd hn U part u hu k (i + 1) (by omega) _ _ (by omega) (by omega)]
        simp only [if_neg h2, if_neg h3]

theorem bef_val {m d : Int} (hm : 1 ≤ m ∧ m ≤ 200000) (hd : 1 ≤ d ∧ d ≤ 200000) {n : Nat} (hn : n ≤ 1000) (part u : Int) (hu : 0 ≤ u ∧ u ≤ 1000000000000) :
    befL part u (piecesP m d n) 0 0 = (wholeF m d n part, someF m d n part u) := by
  have U := pieces_upto hm hd hn
  obtain ⟨l, hl⟩ : ∃ l, piecesP m d n = l := ⟨_, rfl⟩
  rw [hl] at U ⊢
  have hlen := U.len
  have s0 : befL part u l 0 0 = if part = 1 then befL part u (l.drop 1) m (pre u 0 m) else befL part u (l.drop 1) 0 0 := by
    have := rd57_drop l 0 (by omega)
    rw [List.drop_zero] at this
    rw [this, show ((0 : Nat) : Int) = 0 from rfl, U.head, befL]
    show (if (1 : Int) = part then befL part u _ (wrap64 (0 + m)) (wrap64 (0 + mn (mx (wrap64 (u - 0)) 0) m)) else _) = _
    have p1 := pre_bd u 0 m (by omega)
    by_cases h : part = 1
    · rw [if_pos h.symm, if_pos h, wrap_id (u - 0) (by omega) (by omega), wrap_id (0 + m) (by omega) (by omega)]
      show befL part u _ _ (wrap64 (0 + pre u 0 m)) = _
      rw [wrap_id _ (by omega) (by omega), Int.zero_add, Int.zero_add]; rfl
    · rw [if_neg (fun e => h e.symm), if_neg h]; rfl
  have fin : ∀ a b, befL part u (l.drop (2 * (n + 1) + 1)) a b = (a, b) := fun a b => by rw [List.drop_eq_nil_of_le (by omega)]; rfl
  have o0 : (oddP m d n n).f0 = 4 := by unfold oddP; rw [if_pos rfl]
  have e0 : (evenP m d n n).f0 = 5 := by unfold evenP; rw [if_pos rfl]
  have p1 := pre_bd u 0 m (by omega)
  rw [s0]
  unfold wholeF someF
  by_cases h1 : part = 1
  · simp only [if_pos h1]
    -- the head alone
    have go := bef_trips hm hd hn U part u hu n 0 (by omega)
    have all : ∀ a b : Int, 0 ≤ a ∧ a ≤ 1000000 → 0 ≤ b ∧ b ≤ 1000000 → ∀ (k i : Nat), i + k = n + 1 → befL part u (l.drop (2 * i + 1)) a b = (a, b) := by
      intro a b ha hb k
      induction k with
      | zero => intro i hi; obtain rfl : i = n + 1 := by omega
                exact fin a b
      | succ k ih =>
        intro i hi
        rw [bef_trip hm hd hn U part u hu i (by omega) a b (by omega) (by omega), if_neg, if_neg]
        · exact ih (i + 1) (by omega)
        · subst h1; unfold evenP; split <;> simp
        · subst h1; unfold oddP; split <;> simp
    exact all m (pre u 0 m) (by omega) (by omega) (n + 1) 0 (by omega)
  · simp only [if_neg h1]
    have t0 := bef_trips hm hd hn U part u hu n 0 (by omega) 0 0 (by simp) (by simp)
    rw [Nat.mul_zero, Nat.zero_add] at t0
    rw [t0]
    have b1 := preSum_bd m d u 0 m (by omega) n 0
    have b2 := preSum_bd m d u m d (by omega) n 0
    have c1 : (n : Int) * m ≤ 1000 * m := Int.mul_le_mul_of_nonneg_right (by omega) (by omega)
    have c2 : (n : Int) * d ≤ 1000 * d := Int.mul_le_mul_of_nonneg_right (by omega) (by omega)
    have c3 : 0 ≤ (n : Int) * m := Int.mul_nonneg (by omega) (by omega)
    have c4 : 0 ≤ (n : Int) * d := Int.mul_nonneg (by omega) (by omega)
    rw [bef_trip hm hd hn U part u hu n (by omega) _ _ (by split <;> (try split) <;> omega) (by split <;> (try split) <;> omega), o0, e0, fin, fin, fin]
    by_cases h2 : part = 2
    · simp [h2]
    by_cases h3 : part = 3
    · simp [h3]
    by_cases h4 : part = 4
    · simp [h4]
    by_cases h5 : part = 5
    · simp [h5]
    simp [h2, h3, h4, h5]

end Go.Proofs.Ytlfeiadmkoocgaa.Pure
