/- What two words have in common, by the program. -/
import Derived.Test.YtbcmlgbhejcjbaaDoorS10
import Derived.Test.YtbcmlgbhejcjbaaDoorWd2
namespace Go.Proofs.YtbcmlgbhejcjbaaDoor.Pure
open Go.RowKit Go.Proofs.YtbcmlgbhejcjbaaDoor.S Go.Proofs.YtbcmlgbhejcjbaaDoorW.PrintWords Go.Proofs.YtbcmlgbhejcjbaaDoorW.PrintLast
set_option linter.unusedVariables false
set_option linter.unusedSimpArgs false

/-- The error of cars and words. -/
def okW (c : Int) (l : List Int) : Int := if inB c 1 8 = true ∧ ∀ x ∈ l, 0 ≤ x ∧ x < 2 ^ c.toNat then 0 else 2
instance (c : Int) (l : List Int) : Decidable (inB c 1 8 = true ∧ ∀ x ∈ l, 0 ≤ x ∧ x < 2 ^ c.toNat) := inferInstance
theorem shl_fin : ∀ i : Fin 9, wrap64 ((shl .i64 1 (i.val : Int)) - 1) = 2 ^ i.val - 1 := by decide +kernel
theorem words_loop (c : Nat) (hc : c ≤ 8) (l : List Int) (hl : l.length ≤ 1000) : ∀ (d i : Nat), i + d = l.length → Ev (fun k => word_words.l0 k (c : Int) l (l.length : Int) (i : Int)) (if ∀ x ∈ l.drop i, 0 ≤ x ∧ x < 2 ^ c then 0 else 2) := by
  intro d
  induction d with
  | zero =>
    intro i hi
    rw [List.drop_eq_nil_of_le (by omega), if_pos (by simp)]
    refine (Ev.const _).step (fun k => ?_)
    rw [word_words.l0, if_neg (by omega)]
  | succ d ih =>
    intro i hi
    rw [rdi_drop l i (by omega)]
    have hs : wrap64 ((shl .i64 1 (c : Int)) - 1) = 2 ^ c - 1 := shl_fin ⟨c, by omega⟩
    by_cases h : inB (rd l (i : Int)) 0 (2 ^ c - 1) = true
    · have h' := (inB_iff _ _ _).1 h
      refine Ev.val ((ih (i + 1) (by omega)).step (fun k => ?_)) ?_
      · rw [word_words.l0, if_pos (by omega), if_pos (by omega), if_pos (by omega), if_pos (by omega), hs, in_val, Option.bind_some, if_pos h, wrap_succ i (by omega)]
      · by_cases hr : ∀ x ∈ l.drop (i + 1), 0 ≤ x ∧ x < 2 ^ c
        · rw [if_pos hr, if_pos]
          intro x hx
          rcases List.mem_cons.1 hx with rfl | hx
          · omega
          · exact hr x hx
        · rw [if_neg hr, if_neg (fun h => hr (fun x hx => h x (by simp [hx])))]
    · have h' := (inB_not _ _ _).1 (by simpa using h)
      rw [if_neg (fun h => by have := h (rd l (i : Int)) (by simp); omega)]
      refine (Ev.const _).step (fun k => ?_)
      rw [word_words.l0, if_pos (by omega), if_pos (by omega), if_pos (by omega), if_pos (by omega), hs, in_val, Option.bind_some, if_neg h]
theorem words_val (c : Int) (l : List Int) (hl : l.length ≤ 1000) : Ev (fun k => word_words.f k c l) (okW c l) := by
  unfold okW
  by_cases h : inB c 1 8 = true
  · have h' := (inB_iff _ _ _).1 h
    obtain ⟨n, rfl⟩ : ∃ n : Nat, c = n := ⟨c.toNat, by omega⟩
    refine Ev.val ((words_loop n (by omega) l hl _ 0 (Nat.zero_add _)).congr (fun k => ?_)) ?_
    · rw [word_words.f, in_val, Option.bind_some, if_pos h]; rfl
    · rw [List.drop_zero, Int.toNat_natCast]
      by_cases hx : ∀ x ∈ l, 0 ≤ x ∧ x < (2 : Int) ^ n
      · rw [if_pos hx, if_pos ⟨h, hx⟩]
      · rw [if_neg hx, if_neg (fun h => hx h.2)]
  · rw [if_neg (fun hh => h hh.1)]
    exact (Ev.const _).congr (fun k => by rw [word_words.f, in_val, Option.bind_some, if_neg h])

theorem okW_zero {c : Int} {l : List Int} (h : okW c l = 0) : (1 ≤ c ∧ c ≤ 8) ∧ ∀ x ∈ l, 0 ≤ x ∧ x < 2 ^ c.toNat := by
  unfold okW at h
  by_cases hh : inB c 1 8 = true ∧ ∀ x ∈ l, 0 ≤ x ∧ x < 2 ^ c.toNat
  · exact ⟨(inB_iff _ _ _).1 hh.1, hh.2⟩
  · rw [if_neg hh] at h; exact absurd h (by decide)
theorem okW_of {c : Int} {l : List Int} (h1 : 1 ≤ c ∧ c ≤ 8) (h2 : ∀ x ∈ l, 0 ≤ x ∧ x < 2 ^ c.toNat) : okW c l = 0 := by
  unfold okW; rw [if_pos ⟨(inB_iff _ _ _).2 h1, h2⟩]
theorem okW_two {c : Int} {l : List Int} (h : ¬ okW c l = 0) : okW c l = 2 := by
  unfold okW at h ⊢
  by_cases hh : inB c 1 8 = true ∧ ∀ x ∈ l, 0 ≤ x ∧ x < 2 ^ c.toNat
  · rw [if_pos hh] at h; exact absurd rfl h
  · rw [if_neg hh]
theorem okW_pair (c a b : Int) : okW c [a, b] = 0 ↔ okW c [a] = 0 ∧ okW c [b] = 0 := by
  constructor
  · intro h
    obtain ⟨h1, h2⟩ := okW_zero h
    exact ⟨okW_of h1 (fun x hx => h2 x (by simp at hx; simp [hx])), okW_of h1 (fun x hx => h2 x (by simp at hx; simp [hx]))⟩
  · rintro ⟨h, h'⟩
    obtain ⟨h1, h2⟩ := okW_zero h
    obtain ⟨_, h3⟩ := okW_zero h'
    refine okW_of h1 (fun x hx => ?_)
    rcases List.mem_cons.1 hx with rfl | hx
    · exact h2 _ (by simp)
    · exact h3 x hx
theorem pow_nat (n : Nat) : (2 : Int) ^ n = ((2 ^ n : Nat) : Int) := (Int.natCast_pow 2 n).symm
theorem pow_small {n : Nat} (h : n ≤ 8) : 2 ^ n ≤ 256 := Nat.pow_le_pow_right (n := 2) (by decide) h
/-- A word and its cars as plain numbers. -/
theorem as_nat {c a : Int} (h : okW c [a] = 0) : ∃ m n : Nat, c = m ∧ a = n ∧ 1 ≤ m ∧ m ≤ 8 ∧ n < 2 ^ m ∧ n < 256 := by
  obtain ⟨h1, h2⟩ := okW_zero h
  have h3 := h2 a (by simp)
  obtain ⟨m, rfl⟩ : ∃ m : Nat, c = m := ⟨c.toNat, by omega⟩
  obtain ⟨n, rfl⟩ : ∃ n : Nat, a = n := ⟨a.toNat, by omega⟩
  rw [Int.toNat_natCast, pow_nat] at h3
  have h4 : n < 2 ^ m := Int.ofNat_lt.1 h3.2
  have h5 := pow_small (n := m) (by omega)
  exact ⟨m, n, rfl, rfl, by omega, by omega, h4, by omega⟩

theorem nat64 (n : Nat) (h : n < 256) : (BitVec.ofInt 64 (n : Int)).toNat = n := by
  rw [BitVec.toNat_ofInt]; omega
theorem wrap_nat (n : Nat) (h : n < 256) : IntKind.i64.wrap (n : Int) = n := by
  rw [show IntKind.i64.wrap (n : Int) = wrap64 (n : Int) from i64_w _]; exact wrap_id _ (by omega) (by omega)
theorem bits_or (x y : Nat) (hx : x < 256) (hy : y < 256) : Go.bits .or .i64 (x : Int) (y : Int) = ((x ||| y : Nat) : Int) := by
  show IntKind.i64.wrap (((BitVec.ofInt 64 (x : Int) ||| BitVec.ofInt 64 (y : Int)).toNat : Nat) : Int) = _
  rw [BitVec.toNat_or, nat64 x hx, nat64 y hy]
  exact wrap_nat _ (Nat.or_lt_two_pow (n := 8) hx hy)
def mergeV (a b c : Int) : Int × Int := if okW c [a, b] = 0 then (((a.toNat ||| b.toNat : Nat) : Int), 0) else (0, 2)
theorem merge_val (a b c : Int) : Ev (fun k => word_Merge.f k a b c) (mergeV a b c) := by
  refine Ev.congr (g' := fun k => (word_words.f k c [a, b]).bind fun t329 => (if t329 = 0 then (some (Go.bits .or .i64 a b, 0)) else (some (0, t329)))) ?_ (fun k => by rw [word_Merge.f])
  refine (words_val c [a, b] (by simp)).bind (f := fun t329 _ => (if t329 = 0 then (some (Go.bits .or .i64 a b, 0)) else (some (0, t329)))) (Ev.of_eq ?_)
  unfold mergeV
  by_cases h : okW c [a, b] = 0
  · rw [if_pos h, if_pos h]
    obtain ⟨h1, h2⟩ := (okW_pair c a b).1 h
    obtain ⟨m, n, rfl, rfl, _, _, _, h3⟩ := as_nat h1
    obtain ⟨m', n', _, rfl, _, _, _, h4⟩ := as_nat h2
    rw [Int.toNat_natCast, Int.toNat_natCast, bits_or n n' h3 h4]
  · rw [if_neg h, if_neg h, okW_two h]

end Go.Proofs.YtbcmlgbhejcjbaaDoor.Pure
