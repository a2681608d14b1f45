/- The parts of a slot in closed form, and the part that the search finds. -/
import Derived.Test.YtlfeiadmkoocgaaPh1
import Derived.Test.YtlfeiadmkoocgaaHof
namespace Go.Proofs.Ytlfeiadmkoocgaa.Pure
open Go.RowKit Go.Proofs.Ytlfeiadmkoocgaa.S Go.Proofs.YtlfeiadmkoocgaaW.PrintWords Go.Proofs.YtlfeiadmkoocgaaW.PrintLast
set_option linter.unusedVariables false
set_option linter.unusedSimpArgs false

theorem rd57_nat (l : List S57) (i : Nat) (h : i < l.length) : rd_T57 l (i : Int) = l[i] := by
  unfold rd_T57; simp [h]
theorem rd57_app (l : List S57) (x : S57) (i : Nat) (h : i < l.length) : rd_T57 (l ++ [x]) (i : Int) = rd_T57 l (i : Int) := by
  rw [rd57_nat _ i (by simp; omega), rd57_nat _ i h, List.getElem_append_left]
theorem rd57_last (l : List S57) (x : S57) : rd_T57 (l ++ [x]) (l.length : Int) = x := by
  rw [rd57_nat _ l.length (by simp)]; simp
theorem lastP_app (l : List S57) (x : S57) : lastP (l ++ [x]) = x := by
  unfold lastP
  rw [show (((l ++ [x]).length : Int) - 1) = (l.length : Int) by simp, rd57_last]

/-- What the j-th piece of a slot is, of a slot with n trips. -/
def oddP (m d : Int) (n i : Nat) : S57 := if i = n then ⟨4, 0, m + i * (m + d), m⟩ else ⟨2, i, m + i * (m + d), m⟩
def evenP (m d : Int) (n i : Nat) : S57 := if i = n then ⟨5, 0, m + i * (m + d) + m, d⟩ else ⟨3, i, m + i * (m + d) + m, d⟩

/-- A list of pieces up to trip i. -/
structure Upto (m d : Int) (n i : Nat) (l : List S57) : Prop where
  len : l.length = 2 * i + 1
  head : rd_T57 l 0 = ⟨1, 0, 0, m⟩
  odd : ∀ j : Nat, j < i → rd_T57 l ((2 * j + 1 : Nat) : Int) = oddP m d n j
  even : ∀ j : Nat, j < i → rd_T57 l ((2 * j + 2 : Nat) : Int) = evenP m d n j
  last : (lastP l).f2 + (lastP l).f3 = m + i * (m + d)

theorem small_mul {m d : Int} {i : Nat} (hm : 1 ≤ m ∧ m ≤ 200000) (hd : 1 ≤ d ∧ d ≤ 200000) (hi : i ≤ 1000000) : 0 ≤ (i : Int) * (m + d) ∧ (i : Int) * (m + d) ≤ 400000000000 := by
  have h1 : 0 ≤ (i : Int) * (m + d) := Int.mul_nonneg (by omega) (by omega)
  have h2 : (i : Int) * (m + d) ≤ 1000000 * (m + d) := Int.mul_le_mul_of_nonneg_right (by omega) (by omega)
  omega

theorem Upto.add {m d : Int} {n i : Nat} {l : List S57} (h : Upto m d n i l) (hm : 1 ≤ m ∧ m ≤ 200000) (hd : 1 ≤ d ∧ d ≤ 200000) (hi : i ≤ 1000) (a b t : Int)
    (ho : (⟨a, t, m + i * (m + d), m⟩ : S57) = oddP m d n i) (he : (⟨b, t, m + i * (m + d) + m, d⟩ : S57) = evenP m d n i) : Upto m d n (i + 1) (addP (addP l a t m) b t d) := by
  have hb := small_mul (i := i) hm hd (by omega)
  have e1 : addP l a t m = l ++ [oddP m d n i] := by
    unfold addP; rw [h.last, wrap_id _ (by omega) (by omega), ho]
  have e2 : addP (addP l a t m) b t d = (l ++ [oddP m d n i]) ++ [evenP m d n i] := by
    rw [e1]; unfold addP; rw [lastP_app, ← ho]; dsimp only; rw [wrap_id _ (by omega) (by omega), he]
  have hl := h.len
  rw [e2]
  refine ⟨by simp [hl]; omega, ?_, fun j hj => ?_, fun j hj => ?_, ?_⟩
  · have := rd57_app (l ++ [oddP m d n i]) (evenP m d n i) 0 (by simp)
    have h2 := rd57_app l (oddP m d n i) 0 (by omega)
    exact (this.trans h2).trans h.head
  · rw [rd57_app _ _ _ (by simp [hl]; omega)]
    by_cases e : j < i
    · rw [rd57_app _ _ _ (by omega)]; exact h.odd j e
    · obtain rfl : j = i := by omega
      rw [← hl, rd57_last]
  · by_cases e : j < i
    · rw [rd57_app _ _ _ (by simp [hl]; omega), rd57_app _ _ _ (by omega)]; exact h.even j e
    · obtain rfl : j = i := by omega
      rw [show 2 * j + 2 = (l ++ [oddP m d n j]).length by simp [hl], rd57_last]
  · rw [lastP_app, ← he]
    show m + i * (m + d) + m + d = m + ((i + 1 : Nat) : Int) * (m + d)
    rw [Int.natCast_add, Int.add_mul]; omega

theorem trips_upto {m d : Int} (hm : 1 ≤ m ∧ m ≤ 200000) (hd : 1 ≤ d ∧ d ≤ 200000) {n : Nat} (hn : n ≤ 1000) : ∀ (k i : Nat) (l : List S57), i + k = n → Upto m d n i l → Upto m d n n (tripsP m d k i l)
  | 0, i, l, h, hl => by obtain rfl : i = n := by omega
                         exact hl
  | k + 1, i, l, h, hl => by
    rw [tripsP]
    have := hl.add hm hd (by omega) 2 3 i (by unfold oddP; rw [if_neg (by omega)]) (by unfold evenP; rw [if_neg (by omega)])
    exact trips_upto hm hd hn k (i + 1) _ (by omega) this

theorem pieces_upto {m d : Int} (hm : 1 ≤ m ∧ m ≤ 200000) (hd : 1 ≤ d ∧ d ≤ 200000) {n : Nat} (hn : n ≤ 1000) : Upto m d n (n + 1) (piecesP m d n) := by
  unfold piecesP
  rw [Int.toNat_natCast]
  have h0 : Upto m d n 0 [⟨1, 0, 0, m⟩] := ⟨rfl, rfl, fun j hj => by omega, fun j hj => by omega, by show (0 : Int) + m = m + ((0 : Nat) : Int) * (m + d); simp⟩
  have h1 := trips_upto hm hd hn n 0 _ (by omega) h0
  exact h1.add hm hd hn 4 5 0 (by unfold oddP; rw [if_pos rfl]) (by unfold evenP; rw [if_pos rfl])

/-- The search finds the first place where the test holds. -/
theorem search_finds (q : Int → Option Bool) (r : Int) : ∀ (k : Nat) (i j : Int), i ≤ r → r ≤ j → j - i < 2 ^ k → (∀ x, i ≤ x → x < r → q x = some false) → (∀ x, r ≤ x → x < j → q x = some true) → searchF q (k + 1) i j = some r
  | 0, i, j, h1, h2, h3, _, _ => by
    rw [searchF, if_neg (by simp at h3; omega)]; congr 1; simp at h3; omega
  | k + 1, i, j, h1, h2, h3, hf, ht => by
    rw [searchF]
    by_cases hij : i < j
    · rw [if_pos hij]
      have h3' : j - i < 2 * 2 ^ k := by rw [Int.pow_succ] at h3; omega
      by_cases hm : (i + j) / 2 < r
      · rw [hf _ (by omega) hm, Option.bind_some, if_neg (by decide)]
        exact search_finds q r k _ j (by omega) h2 (by omega) (fun x a b => hf x (by omega) b) ht
      · rw [ht _ (by omega) (by omega), Option.bind_some, if_pos rfl]
        exact search_finds q r k i _ h1 (by omega) (by omega) hf (fun x a b => ht x a (by omega))
    · rw [if_neg hij]; congr 1; omega

theorem oddP_f2 (m d : Int) (n i : Nat) : (oddP m d n i).f2 = m + i * (m + d) := by unfold oddP; split <;> rfl
theorem evenP_f2 (m d : Int) (n i : Nat) : (evenP m d n i).f2 = m + i * (m + d) + m := by unfold evenP; split <;> rfl

/-- The part that holds place u. -/
def findP (m d : Int) (n : Nat) (u : Int) : S57 := if u < m then ⟨1, 0, 0, m⟩ else if (u - m) % (m + d) < m then oddP m d n ((u - m) / (m + d)).toNat else evenP m d n ((u - m) / (m + d)).toNat

theorem mul_mono {a b : Nat} {t : Int} (h : a ≤ b) (ht : 0 ≤ t) : (a : Int) * t ≤ (b : Int) * t := Int.mul_le_mul_of_nonneg_right (by omega) ht
theorem mul_succ' (a : Nat) (t : Int) : ((a + 1 : Nat) : Int) * t = (a : Int) * t + t := by rw [Int.natCast_add, Int.add_mul]; simp

theorem found_val {m d : Int} (hm : 1 ≤ m ∧ m ≤ 200000) (hd : 1 ≤ d ∧ d ≤ 200000) {n : Nat} (hn : n ≤ 1000) (u : Int) (h0 : 0 ≤ u) (h1 : u < m + (n + 1) * (m + d)) : foundP (piecesP m d n) u = some (findP m d n u) := by
  have U := pieces_upto hm hd hn
  obtain ⟨l, hl⟩ : ∃ l, piecesP m d n = l := ⟨_, rfl⟩
  rw [hl] at U ⊢
  have hlen := U.len
  have lq : ∀ j : Nat, j < l.length → laterQ l u (j : Int) = some (decide ((rd_T57 l (j : Int)).f2 > u)) := fun j hj => by
    unfold laterQ; rw [if_pos ⟨by omega, by omega⟩]
  -- where a piece begins
  have key : ∀ (r : Nat) (x : S57), 1 ≤ r → r ≤ l.length → rd_T57 l ((r : Int) - 1) = x → (∀ j : Nat, j < r → (rd_T57 l (j : Int)).f2 ≤ u) → (∀ j : Nat, r ≤ j → j < l.length → u < (rd_T57 l (j : Int)).f2) → foundP l u = some x := by
    intro r x a b hx c e
    unfold foundP
    rw [search_finds (laterQ l u) r 63 0 l.length (by omega) (by omega) (by simp; omega) (fun y y0 y1 => ?_) (fun y y0 y1 => ?_), Option.bind_some, if_pos ⟨by omega, by omega, by omega⟩, hx]
    · obtain ⟨y, rfl⟩ : ∃ z : Nat, y = z := ⟨y.toNat, by omega⟩
      rw [lq y (by omega), decide_eq_false]; have := c y (by omega); omega
    · obtain ⟨y, rfl⟩ : ∃ z : Nat, y = z := ⟨y.toNat, by omega⟩
      rw [lq y (by omega), decide_eq_true]; exact e y (by omega) (by omega)
  have parts : ∀ j : Nat, j < l.length → j = 0 ∨ (∃ i, j = 2 * i + 1 ∧ i < n + 1) ∨ (∃ i, j = 2 * i + 2 ∧ i < n + 1) := by
    intro j hj
    by_cases h : j = 0
    · exact Or.inl h
    · by_cases h2 : j % 2 = 1
      · exact Or.inr (Or.inl ⟨(j - 1) / 2, by omega, by omega⟩)
      · exact Or.inr (Or.inr ⟨(j - 2) / 2, by omega, by omega⟩)
  have hh : (rd_T57 l ((0 : Nat) : Int)).f2 = 0 := by have := U.head; rw [show ((0 : Nat) : Int) = 0 from rfl, this]
  have ho : ∀ i : Nat, i < n + 1 → (rd_T57 l ((2 * i + 1 : Nat) : Int)).f2 = m + i * (m + d) := fun i hi => by rw [U.odd i hi, oddP_f2]
  have he : ∀ i : Nat, i < n + 1 → (rd_T57 l ((2 * i + 2 : Nat) : Int)).f2 = m + i * (m + d) + m := fun i hi => by rw [U.even i hi, evenP_f2]
  unfold findP
  by_cases hu : u < m
  · rw [if_pos hu]
    refine key 1 _ (by omega) (by omega) U.head (fun j hj => ?_) (fun j a b => ?_)
    · obtain rfl : j = 0 := by omega
      rw [hh]; exact h0
    · rcases parts j b with rfl | ⟨i, rfl, hi⟩ | ⟨i, rfl, hi⟩
      · omega
      · rw [ho i hi]; have := small_mul (i := i) hm hd (by omega); omega
      · rw [he i hi]; have := small_mul (i := i) hm hd (by omega); omega
  · rw [if_neg hu]
    have q0 : 0 ≤ (u - m) / (m + d) := Int.ediv_nonneg (by omega) (by omega)
    have em := Int.mul_ediv_add_emod (u - m) (m + d)
    have e1 := Int.emod_nonneg (u - m) (show m + d ≠ 0 by omega)
    have e2 := Int.emod_lt_of_pos (u - m) (show 0 < m + d by omega)
    obtain ⟨c, hc⟩ : ∃ c : Nat, (u - m) / (m + d) = c := ⟨((u - m) / (m + d)).toNat, by omega⟩
    rw [hc] at em ⊢
    rw [Int.mul_comm] at em
    rw [Int.toNat_natCast]
    obtain ⟨v, hv⟩ : ∃ v, (u - m) % (m + d) = v := ⟨_, rfl⟩
    rw [hv] at em e1 e2 ⊢
    have hcn : c < n + 1 := by
      refine Nat.lt_of_not_le fun h => ?_
      have := mul_mono (t := m + d) h (by omega)
      rw [mul_succ'] at this
      have e3 : ((n : Int) + 1) * (m + d) = (n : Int) * (m + d) + (m + d) := by rw [Int.add_mul]; simp
      omega
    by_cases hvm : v < m
    · rw [if_pos hvm]
      refine key (2 * c + 2) _ (by omega) (by omega) (by rw [show (((2 * c + 2 : Nat) : Int) - 1) = ((2 * c + 1 : Nat) : Int) by omega]; exact U.odd c hcn) (fun j hj => ?_) (fun j a b => ?_)
      · rcases parts j (by omega) with rfl | ⟨i, rfl, hi⟩ | ⟨i, rfl, hi⟩
        · rw [hh]; exact h0
        · rw [ho i hi]; have := mul_mono (t := m + d) (show i ≤ c by omega) (by omega); omega
        · rw [he i hi]; have := mul_mono (t := m + d) (show i + 1 ≤ c by omega) (by omega); rw [mul_succ'] at this; omega
      · rcases parts j b with rfl | ⟨i, rfl, hi⟩ | ⟨i, rfl, hi⟩
        · omega
        · rw [ho i hi]; have := mul_mono (t := m + d) (show c + 1 ≤ i by omega) (by omega); rw [mul_succ'] at this; omega
        · rw [he i hi]; have := mul_mono (t := m + d) (show c ≤ i by omega) (by omega); omega
    · rw [if_neg hvm]
      refine key (2 * c + 3) _ (by omega) (by omega) (by rw [show (((2 * c + 3 : Nat) : Int) - 1) = ((2 * c + 2 : Nat) : Int) by omega]; exact U.even c hcn) (fun j hj => ?_) (fun j a b => ?_)
      · rcases parts j (by omega) with rfl | ⟨i, rfl, hi⟩ | ⟨i, rfl, hi⟩
        · rw [hh]; exact h0
        · rw [ho i hi]; have := mul_mono (t := m + d) (show i ≤ c by omega) (by omega); omega
        · rw [he i hi]; have := mul_mono (t := m + d) (show i ≤ c by omega) (by omega); omega
      · rcases parts j b with rfl | ⟨i, rfl, hi⟩ | ⟨i, rfl, hi⟩
        · omega
        · rw [ho i hi]; have := mul_mono (t := m + d) (show c + 1 ≤ i by omega) (by omega); rw [mul_succ'] at this; omega
        · rw [he i hi]; have := mul_mono (t := m + d) (show c + 1 ≤ i by omega) (by omega); rw [mul_succ'] at this; omega

end Go.Proofs.Ytlfeiadmkoocgaa.Pure
