/- Cars, texts, what two words have in common and where they differ: for all inputs. -/
import Derived.Test.YtbcmlgbhejcjbaaDoorWb2
namespace Go.Proofs.YtbcmlgbhejcjbaaDoor.Pure
open Go.RowKit Go.Proofs.YtbcmlgbhejcjbaaDoor.S Go.Proofs.YtbcmlgbhejcjbaaDoorW.PrintWords Go.Proofs.YtbcmlgbhejcjbaaDoorW.PrintLast
set_option linter.unusedVariables false
set_option linter.unusedSimpArgs false

theorem okW_zero {c : Int} {l : List Int} (h : okW c l = 0) : (1 ≤ c ∧ c ≤ 8) ∧ ∀ x ∈ l, 0 ≤ x ∧ x < 2 ^ c.toNat := by
  unfold okW at h
  by_cases hh : inB c 1 8 = true ∧ ∀ x ∈ l, 0 ≤ x ∧ x < 2 ^ c.toNat
  · exact ⟨(inB_iff _ _ _).1 hh.1, hh.2⟩
  · rw [if_neg hh] at h; exact absurd h (by decide)
theorem okW_of {c : Int} {l : List Int} (h1 : 1 ≤ c ∧ c ≤ 8) (h2 : ∀ x ∈ l, 0 ≤ x ∧ x < 2 ^ c.toNat) : okW c l = 0 := by
  unfold okW; rw [if_pos ⟨(inB_iff _ _ _).2 h1, h2⟩]
theorem okW_two {c : Int} {l : List Int} (h : ¬ okW c l = 0) : okW c l = 2 := by
  unfold okW at h ⊢
  by_cases hh : inB c 1 8 = true ∧ ∀ x ∈ l, 0 ≤ x ∧ x < 2 ^ c.toNat
  · rw [if_pos hh] at h; exact absurd rfl h
  · rw [if_neg hh]
theorem okW_pair (c a b : Int) : okW c [a, b] = 0 ↔ okW c [a] = 0 ∧ okW c [b] = 0 := by
  constructor
  · intro h
    obtain ⟨h1, h2⟩ := okW_zero h
    exact ⟨okW_of h1 (fun x hx => h2 x (by simp at hx; simp [hx])), okW_of h1 (fun x hx => h2 x (by simp at hx; simp [hx]))⟩
  · rintro ⟨h, h'⟩
    obtain ⟨h1, h2⟩ := okW_zero h
    obtain ⟨_, h3⟩ := okW_zero h'
    refine okW_of h1 (fun x hx => ?_)
    rcases List.mem_cons.1 hx with rfl | hx
    · exact h2 _ (by simp)
    · exact h3 x hx
theorem pow_nat (n : Nat) : (2 : Int) ^ n = ((2 ^ n : Nat) : Int) := (Int.natCast_pow 2 n).symm
theorem pow_small {n : Nat} (h : n ≤ 8) : 2 ^ n ≤ 256 := Nat.pow_le_pow_right (n := 2) (by decide) h
/-- A word and its cars as plain numbers. -/
theorem as_nat {c a : Int} (h : okW c [a] = 0) : ∃ m n : Nat, c = m ∧ a = n ∧ 1 ≤ m ∧ m ≤ 8 ∧ n < 2 ^ m ∧ n < 256 := by
  obtain ⟨h1, h2⟩ := okW_zero h
  have h3 := h2 a (by simp)
  obtain ⟨m, rfl⟩ : ∃ m : Nat, c = m := ⟨c.toNat, by omega⟩
  obtain ⟨n, rfl⟩ : ∃ n : Nat, a = n := ⟨a.toNat, by omega⟩
  rw [Int.toNat_natCast, pow_nat] at h3
  have h4 : n < 2 ^ m := Int.ofNat_lt.1 h3.2
  have h5 := pow_small (n := m) (by omega)
  exact ⟨m, n, rfl, rfl, by omega, by omega, h4, by omega⟩

def carsV (a c : Int) : List Int × Int := if okW c [a] = 0 then (carsL a.toNat c.toNat, 0) else ([], 2)
def textV (a c : Int) : ByteArray × Int := if okW c [a] = 0 then (textB a.toNat c.toNat, 0) else (⟨#[]⟩, 2)
theorem cars_val (a c : Int) : Ev (fun k => word_Cars.f k a c) (carsV a c) := by
  unfold carsV
  by_cases h : okW c [a] = 0
  · rw [if_pos h]
    obtain ⟨m, n, rfl, rfl, h1, h2, h3, h4⟩ := as_nat h
    rw [Int.toNat_natCast, Int.toNat_natCast]
    exact Ev.mono_at 40 (cars_fin ⟨m, by omega⟩ ⟨n, h4⟩ h1 h3) (fun k => word_Cars.mono _ _ k)
  · rw [if_neg h]
    refine Ev.congr (g' := fun k => (word_words.f k c [a]).bind fun t447 => (if t447 = 0 then (word_Cars.l0 k a ([] : List Int) c 0) else (some (([] : List Int), t447)))) ?_ (fun k => by rw [word_Cars.f])
    refine (words_val c [a] (by simp)).bind (f := fun t447 k => (if t447 = 0 then (word_Cars.l0 k a ([] : List Int) c 0) else (some (([] : List Int), t447)))) ?_
    rw [okW_two h]
    exact (Ev.const _).congr (fun k => by rw [if_neg (by decide)])
theorem rcars_val (a c : Int) : Ev (fun k => tipstaffref33_Cars.f k a c) (carsV a c) := by
  unfold carsV
  by_cases h : okW c [a] = 0
  · rw [if_pos h]
    obtain ⟨m, n, rfl, rfl, h1, h2, h3, h4⟩ := as_nat h
    rw [Int.toNat_natCast, Int.toNat_natCast]
    exact Ev.mono_at 40 (rcars_fin ⟨m, by omega⟩ ⟨n, h4⟩ h1 h3) (fun k => tipstaffref33_Cars.mono _ _ k)
  · rw [if_neg h]
    refine Ev.congr (g' := fun k => (tipstaffref33_valid.f k a c).bind fun t451 => (if t451 = 0 then (tipstaffref33_Cars.l0 k a c ([] : List Int) 1) else (some (([] : List Int), t451)))) ?_ (fun k => by rw [tipstaffref33_Cars.f])
    refine (rvalid_val a c).bind (f := fun t451 k => (if t451 = 0 then (tipstaffref33_Cars.l0 k a c ([] : List Int) 1) else (some (([] : List Int), t451)))) ?_
    rw [okW_two h]
    exact (Ev.const _).congr (fun k => by rw [if_neg (by decide)])
theorem text_val (a c : Int) : Ev (fun k => word_Text.f k a c) (textV a c) := by
  unfold textV
  by_cases h : okW c [a] = 0
  · rw [if_pos h]
    obtain ⟨m, n, rfl, rfl, h1, h2, h3, h4⟩ := as_nat h
    rw [Int.toNat_natCast, Int.toNat_natCast]
    exact Ev.mono_at 40 (text_fin ⟨m, by omega⟩ ⟨n, h4⟩ h1 h3) (fun k => word_Text.mono _ _ k)
  · rw [if_neg h]
    refine Ev.congr (g' := fun k => (word_words.f k c [a]).bind fun t447 => (if t447 = 0 then (word_Text.l0 k a ([] : List Int) c 0) else (some ((⟨#[]⟩ : ByteArray), t447)))) ?_ (fun k => by rw [word_Text.f])
    refine (words_val c [a] (by simp)).bind (f := fun t447 k => (if t447 = 0 then (word_Text.l0 k a ([] : List Int) c 0) else (some ((⟨#[]⟩ : ByteArray), t447)))) ?_
    rw [okW_two h]
    exact (Ev.const _).congr (fun k => by rw [if_neg (by decide)])
theorem rtext_val (a c : Int) : Ev (fun k => tipstaffref33_Text.f k a c) (textV a c) := by
  unfold textV
  by_cases h : okW c [a] = 0
  · rw [if_pos h]
    obtain ⟨m, n, rfl, rfl, h1, h2, h3, h4⟩ := as_nat h
    rw [Int.toNat_natCast, Int.toNat_natCast]
    exact Ev.mono_at 40 (rtext_fin ⟨m, by omega⟩ ⟨n, h4⟩ h1 h3) (fun k => tipstaffref33_Text.mono _ _ k)
  · rw [if_neg h]
    refine Ev.congr (g' := fun k => (tipstaffref33_valid.f k a c).bind fun t451 => (if t451 = 0 then (tipstaffref33_Text.l0 k a c (⟨#[]⟩ : ByteArray) 1) else (some ((⟨#[]⟩ : ByteArray), t451)))) ?_ (fun k => by rw [tipstaffref33_Text.f])
    refine (rvalid_val a c).bind (f := fun t451 k => (if t451 = 0 then (tipstaffref33_Text.l0 k a c (⟨#[]⟩ : ByteArray) 1) else (some ((⟨#[]⟩ : ByteArray), t451)))) ?_
    rw [okW_two h]
    exact (Ev.const _).congr (fun k => by rw [if_neg (by decide)])

theorem nat64 (n : Nat) (h : n < 256) : (BitVec.ofInt 64 (n : Int)).toNat = n := by
  rw [BitVec.toNat_ofInt]; omega
theorem wrap_nat (n : Nat) (h : n < 256) : IntKind.i64.wrap (n : Int) = n := by
  rw [show IntKind.i64.wrap (n : Int) = wrap64 (n : Int) from i64_w _]; exact wrap_id _ (by omega) (by omega)
theorem bits_or (x y : Nat) (hx : x < 256) (hy : y < 256) : Go.bits .or .i64 (x : Int) (y : Int) = ((x ||| y : Nat) : Int) := by
  show IntKind.i64.wrap (((BitVec.ofInt 64 (x : Int) ||| BitVec.ofInt 64 (y : Int)).toNat : Nat) : Int) = _
  rw [BitVec.toNat_or, nat64 x hx, nat64 y hy]
  exact wrap_nat _ (Nat.or_lt_two_pow (n := 8) hx hy)
theorem bits_xor (x y : Nat) (hx : x < 256) (hy : y < 256) : Go.bits .xor .i64 (x : Int) (y : Int) = ((x ^^^ y : Nat) : Int) := by
  show IntKind.i64.wrap (((BitVec.ofInt 64 (x : Int) ^^^ BitVec.ofInt 64 (y : Int)).toNat : Nat) : Int) = _
  rw [BitVec.toNat_xor, nat64 x hx, nat64 y hy]
  exact wrap_nat _ (Nat.xor_lt_two_pow (n := 8) hx hy)

theorem makeV_app (c : Int) : ∀ (l l' : List Int) (w : Nat), (∀ x ∈ l, inB x 1 c = true) → makeV c (l ++ l') w = makeV c l' (orL l w)
  | [], l', w, h => rfl
  | x :: xs, l', w, h => by
    rw [List.cons_append, makeV, if_pos (h x (by simp)), orL]
    exact makeV_app c xs l' _ (fun y hy => h y (by simp [hy]))
theorem orL_from : ∀ (l : List Int) (w : Nat), orL l w = w ||| orL l 0
  | [], w => (Nat.or_zero w).symm
  | x :: xs, w => by
    rw [orL, orL, orL_from xs (w ||| 2 ^ (x - 1).toNat), orL_from xs (0 ||| 2 ^ (x - 1).toNat), Nat.zero_or, Nat.or_assoc]
theorem make_cars (m n : Nat) (h1 : 1 ≤ m) (h2 : m ≤ 8) (h3 : n < 2 ^ m) : makeT (carsL n m) (m : Int) = ((n : Int), 0) := by
  have h5 := pow_small (n := m) h2
  obtain ⟨e1, e2⟩ := carsL_fin ⟨m, by omega⟩ ⟨n, by omega⟩ h1 h3
  unfold makeT
  rw [if_pos ((inB_iff _ _ _).2 ⟨by omega, by omega⟩)]
  have := makeV_app (m : Int) (carsL n m) [] 0 e2
  rw [List.append_nil] at this
  rw [this, show orL (carsL n m) 0 = n from e1]; rfl
theorem make_two (m x y : Nat) (h1 : 1 ≤ m) (h2 : m ≤ 8) (hx : x < 2 ^ m) (hy : y < 2 ^ m) : makeT (carsL x m ++ carsL y m) (m : Int) = (((x ||| y : Nat) : Int), 0) := by
  have h5 := pow_small (n := m) h2
  obtain ⟨e1, e2⟩ := carsL_fin ⟨m, by omega⟩ ⟨x, by omega⟩ h1 hx
  obtain ⟨e3, e4⟩ := carsL_fin ⟨m, by omega⟩ ⟨y, by omega⟩ h1 hy
  unfold makeT
  rw [if_pos ((inB_iff _ _ _).2 ⟨by omega, by omega⟩), makeV_app _ _ _ _ e2, show orL (carsL x m) 0 = x from e1]
  have := makeV_app (m : Int) (carsL y m) [] x e4
  rw [List.append_nil] at this
  rw [this, orL_from, show orL (carsL y m) 0 = y from e3]; rfl
theorem carsL_len (w m : Nat) : (carsL w m).length ≤ m := by
  unfold carsL
  rw [List.length_map]
  have := List.length_filter_le (fun i => w.testBit i) (List.range m)
  rw [List.length_range] at this; exact this

def mergeV (a b c : Int) : Int × Int := if okW c [a, b] = 0 then (((a.toNat ||| b.toNat : Nat) : Int), 0) else (0, 2)
theorem merge_val (a b c : Int) : Ev (fun k => word_Merge.f k a b c) (mergeV a b c) := by
  refine Ev.congr (g' := fun k => (word_words.f k c [a, b]).bind fun t329 => (if t329 = 0 then (some (Go.bits .or .i64 a b, 0)) else (some (0, t329)))) ?_ (fun k => by rw [word_Merge.f])
  refine (words_val c [a, b] (by simp)).bind (f := fun t329 _ => (if t329 = 0 then (some (Go.bits .or .i64 a b, 0)) else (some (0, t329)))) (Ev.of_eq ?_)
  unfold mergeV
  by_cases h : okW c [a, b] = 0
  · rw [if_pos h, if_pos h]
    obtain ⟨h1, h2⟩ := (okW_pair c a b).1 h
    obtain ⟨m, n, rfl, rfl, _, _, _, h3⟩ := as_nat h1
    obtain ⟨m', n', _, rfl, _, _, _, h4⟩ := as_nat h2
    rw [Int.toNat_natCast, Int.toNat_natCast, bits_or n n' h3 h4]
  · rw [if_neg h, if_neg h, okW_two h]
theorem rmerge_val (a b c : Int) : Ev (fun k => tipstaffref33_Merge.f k a b c) (mergeV a b c) := by
  refine Ev.congr (g' := fun k => (tipstaffref33_Cars.f k a c).bind fun bt465 => ((tipstaffref33_Cars.f k b c).bind fun bt469 => (if bt465.2 = 0 then (if bt469.2 = 0 then (if bt465.1.length + bt469.1.length < 17592186044416 then ((tipstaffref33_Make.f k (bt465.1 ++ bt469.1) c).bind fun bt476 => (some (bt476.1, bt476.2))) else (none)) else (some (0, 2))) else (some (0, 2))))) ?_ (fun k => by rw [tipstaffref33_Merge.f])
  refine (rcars_val a c).bind (f := fun bt465 k => ((tipstaffref33_Cars.f k b c).bind fun bt469 => (if bt465.2 = 0 then (if bt469.2 = 0 then (if bt465.1.length + bt469.1.length < 17592186044416 then ((tipstaffref33_Make.f k (bt465.1 ++ bt469.1) c).bind fun bt476 => (some (bt476.1, bt476.2))) else (none)) else (some (0, 2))) else (some (0, 2))))) ?_
  refine (rcars_val b c).bind (f := fun bt469 k => (if (carsV a c).2 = 0 then (if bt469.2 = 0 then (if (carsV a c).1.length + bt469.1.length < 17592186044416 then ((tipstaffref33_Make.f k ((carsV a c).1 ++ bt469.1) c).bind fun bt476 => (some (bt476.1, bt476.2))) else (none)) else (some (0, 2))) else (some (0, 2)))) ?_
  unfold mergeV
  by_cases h : okW c [a, b] = 0
  · rw [if_pos h]
    obtain ⟨h1, h2⟩ := (okW_pair c a b).1 h
    rw [show carsV a c = (carsL a.toNat c.toNat, 0) by unfold carsV; rw [if_pos h1], show carsV b c = (carsL b.toNat c.toNat, 0) by unfold carsV; rw [if_pos h2]]
    obtain ⟨m, n, rfl, rfl, q1, q2, q3, h3⟩ := as_nat h1
    obtain ⟨m', n', e, rfl, _, _, q4, h4⟩ := as_nat h2
    obtain rfl : m = m' := by omega
    rw [Int.toNat_natCast, Int.toNat_natCast, Int.toNat_natCast]
    have l1 := carsL_len n m
    have l2 := carsL_len n' m
    have hm := rmake_val (carsL n m ++ carsL n' m) (m : Int) (by rw [List.length_append]; omega)
    rw [make_two m n n' q1 q2 q3 q4] at hm
    refine Ev.congr (g' := fun k => (tipstaffref33_Make.f k (carsL n m ++ carsL n' m) (m : Int)).bind fun bt476 => (some (bt476.1, bt476.2))) ?_ (fun k => by rw [if_pos rfl, if_pos rfl, if_pos (show (carsL n m).length + (carsL n' m).length < 17592186044416 by omega)])
    exact hm.bind (f := fun bt476 _ => some (bt476.1, bt476.2)) (Ev.const _)
  · rw [if_neg h]
    refine (Ev.const _).congr (fun k => ?_)
    by_cases h1 : okW c [a] = 0
    · have h2 : ¬ okW c [b] = 0 := fun h2 => h ((okW_pair c a b).2 ⟨h1, h2⟩)
      rw [show carsV a c = (carsL a.toNat c.toNat, 0) by unfold carsV; rw [if_pos h1], show carsV b c = ([], 2) by unfold carsV; rw [if_neg h2], if_pos rfl, if_neg (by decide)]
    · rw [show carsV a c = ([], 2) by unfold carsV; rw [if_neg h1], if_neg (by decide)]

def differV (a b c : Int) : List Int × Int := if okW c [a, b] = 0 then (carsL (a.toNat ^^^ b.toNat) c.toNat, 0) else ([], 2)
theorem xor_ok {m x y : Nat} (h2 : m ≤ 8) (h1 : 1 ≤ m) (hx : x < 2 ^ m) (hy : y < 2 ^ m) : okW (m : Int) [((x ^^^ y : Nat) : Int)] = 0 := by
  refine okW_of ⟨by omega, by omega⟩ (fun z hz => ?_)
  rw [List.mem_singleton.1 hz, Int.toNat_natCast, pow_nat]
  exact ⟨by omega, Int.ofNat_lt.2 (Nat.xor_lt_two_pow hx hy)⟩
theorem differ_val (a b c : Int) : Ev (fun k => word_Differ.f k a b c) (differV a b c) := by
  refine Ev.congr (g' := fun k => (word_words.f k c [a, b]).bind fun t481 => (if t481 = 0 then ((word_Cars.f k (Go.bits .xor .i64 a b) c).bind fun bt482 => (some (bt482.1, bt482.2))) else (some (([] : List Int), t481)))) ?_ (fun k => by rw [word_Differ.f])
  refine (words_val c [a, b] (by simp)).bind (f := fun t481 k => (if t481 = 0 then ((word_Cars.f k (Go.bits .xor .i64 a b) c).bind fun bt482 => (some (bt482.1, bt482.2))) else (some (([] : List Int), t481)))) ?_
  unfold differV
  by_cases h : okW c [a, b] = 0
  · rw [if_pos h]
    obtain ⟨h1, h2⟩ := (okW_pair c a b).1 h
    obtain ⟨m, n, rfl, rfl, q1, q2, q3, h3⟩ := as_nat h1
    obtain ⟨m', n', e, rfl, _, _, q4, h4⟩ := as_nat h2
    obtain rfl : m = m' := by omega
    rw [Int.toNat_natCast, Int.toNat_natCast, Int.toNat_natCast]
    have hc := cars_val ((n ^^^ n' : Nat) : Int) (m : Int)
    rw [show carsV ((n ^^^ n' : Nat) : Int) (m : Int) = (carsL (n ^^^ n') m, 0) by unfold carsV; rw [if_pos (xor_ok q2 q1 q3 q4), Int.toNat_natCast, Int.toNat_natCast]] at hc
    refine Ev.congr (g' := fun k => (word_Cars.f k ((n ^^^ n' : Nat) : Int) (m : Int)).bind fun bt482 => (some (bt482.1, bt482.2))) ?_ (fun k => by rw [if_pos h, bits_xor n n' h3 h4])
    exact hc.bind (f := fun bt482 _ => some (bt482.1, bt482.2)) (Ev.const _)
  · rw [if_neg h, okW_two h]
    exact (Ev.const _).congr (fun k => by rw [if_neg (by decide)])
theorem carsL_succ (x j : Nat) : carsL x (j + 1) = carsL x j ++ (if x.testBit j then [(j : Int) + 1] else []) := by
  unfold carsL
  rw [List.range_succ, List.filter_append, List.map_append]
  congr 1
  by_cases h : x.testBit j = true
  · rw [if_pos h, List.filter_cons_of_pos h]; rfl
  · rw [if_neg h, List.filter_cons_of_neg h]; rfl
theorem rdiffer_loop (m x y : Nat) (h2 : m ≤ 8) (hx : x < 256) (hy : y < 256) : ∀ d j : Nat, j + d = m → Ev (fun k => tipstaffref33_Differ.l0 k (x : Int) (y : Int) (m : Int) (carsL (x ^^^ y) j) ((j + 1 : Nat) : Int)) (carsL (x ^^^ y) m, 0) := by
  intro d
  induction d with
  | zero =>
    intro j hj
    obtain rfl : j = m := by omega
    refine (Ev.const _).step (fun k => ?_)
    rw [tipstaffref33_Differ.l0, if_neg (by omega)]
  | succ d ih =>
    intro j hj
    have ih := ih (j + 1) (by omega)
    rw [carsL_succ] at ih
    have hl := carsL_len (x ^^^ y) j
    refine Ev.step (g' := fun k => (tipstaffref33_bit.f k (x : Int) ((j + 1 : Nat) : Int)).bind fun t488 => ((tipstaffref33_bit.f k (y : Int) ((j + 1 : Nat) : Int)).bind fun t489 => (if (t488 != t489) = true then (if (carsL (x ^^^ y) j).length < 17592186044416 then (tipstaffref33_Differ.l0 k (x : Int) (y : Int) (m : Int) ((carsL (x ^^^ y) j) ++ [((j + 1 : Nat) : Int)]) (wrap64 (((j + 1 : Nat) : Int) + 1))) else (none)) else (tipstaffref33_Differ.l0 k (x : Int) (y : Int) (m : Int) (carsL (x ^^^ y) j) (wrap64 (((j + 1 : Nat) : Int) + 1)))))) ?_ (fun k => by rw [tipstaffref33_Differ.l0, if_pos (by omega)])
    refine (rbit_ev x j hx (by omega)).bind (f := fun t488 k => ((tipstaffref33_bit.f k (y : Int) ((j + 1 : Nat) : Int)).bind fun t489 => (if (t488 != t489) = true then (if (carsL (x ^^^ y) j).length < 17592186044416 then (tipstaffref33_Differ.l0 k (x : Int) (y : Int) (m : Int) ((carsL (x ^^^ y) j) ++ [((j + 1 : Nat) : Int)]) (wrap64 (((j + 1 : Nat) : Int) + 1))) else (none)) else (tipstaffref33_Differ.l0 k (x : Int) (y : Int) (m : Int) (carsL (x ^^^ y) j) (wrap64 (((j + 1 : Nat) : Int) + 1)))))) ?_
    refine (rbit_ev y j hy (by omega)).bind (f := fun t489 k => (if (x.testBit j != t489) = true then (if (carsL (x ^^^ y) j).length < 17592186044416 then (tipstaffref33_Differ.l0 k (x : Int) (y : Int) (m : Int) ((carsL (x ^^^ y) j) ++ [((j + 1 : Nat) : Int)]) (wrap64 (((j + 1 : Nat) : Int) + 1))) else (none)) else (tipstaffref33_Differ.l0 k (x : Int) (y : Int) (m : Int) (carsL (x ^^^ y) j) (wrap64 (((j + 1 : Nat) : Int) + 1))))) ?_
    have hb : (x.testBit j != y.testBit j) = (x ^^^ y).testBit j := by rw [Nat.testBit_xor]
    rw [wrap_succ (j + 1) (by omega), hb]
    by_cases ht : (x ^^^ y).testBit j = true
    · rw [if_pos ht] at ih
      refine ih.congr (fun k => ?_)
      rw [if_pos ht, if_pos (by omega)]; rfl
    · rw [if_neg ht, List.append_nil] at ih
      refine ih.congr (fun k => ?_)
      rw [if_neg ht]
theorem rdiffer_val (a b c : Int) : Ev (fun k => tipstaffref33_Differ.f k a b c) (differV a b c) := by
  have bad : Ev (fun k => tipstaffref33_Differ.j0 k a b c true) ([], 2) := by
    refine (Ev.const _).step (fun k => ?_)
    rw [tipstaffref33_Differ.j0, if_pos rfl]
  refine Ev.congr (g' := fun k => (tipstaffref33_valid.f k a c).bind fun t486 => (if t486 = 0 then ((tipstaffref33_valid.f k b c).bind fun t487 => (tipstaffref33_Differ.j0 k a b c (t487 != 0))) else (tipstaffref33_Differ.j0 k a b c true))) ?_ (fun k => by rw [tipstaffref33_Differ.f])
  refine (rvalid_val a c).bind (f := fun t486 k => (if t486 = 0 then ((tipstaffref33_valid.f k b c).bind fun t487 => (tipstaffref33_Differ.j0 k a b c (t487 != 0))) else (tipstaffref33_Differ.j0 k a b c true))) ?_
  unfold differV
  by_cases h1 : okW c [a] = 0
  · refine Ev.congr (g' := fun k => (tipstaffref33_valid.f k b c).bind fun t487 => (tipstaffref33_Differ.j0 k a b c (t487 != 0))) ?_ (fun k => by rw [if_pos h1])
    refine (rvalid_val b c).bind (f := fun t487 k => (tipstaffref33_Differ.j0 k a b c (t487 != 0))) ?_
    by_cases h2 : okW c [b] = 0
    · rw [if_pos ((okW_pair c a b).2 ⟨h1, h2⟩), h2]
      obtain ⟨m, n, rfl, rfl, q1, q2, q3, h3⟩ := as_nat h1
      obtain ⟨m', n', e, rfl, _, _, q4, h4⟩ := as_nat h2
      obtain rfl : m = m' := by omega
      rw [Int.toNat_natCast, Int.toNat_natCast, Int.toNat_natCast]
      refine (rdiffer_loop m n n' q2 h3 h4 m 0 (Nat.zero_add _)).step (fun k => ?_)
      rw [tipstaffref33_Differ.j0, if_neg (by decide)]; rfl
    · rw [if_neg (fun h => h2 ((okW_pair c a b).1 h).2), okW_two h2]
      exact bad
  · rw [if_neg (fun h => h1 ((okW_pair c a b).1 h).1)]
    exact bad.congr (fun k => by rw [if_neg h1])

end Go.Proofs.YtbcmlgbhejcjbaaDoor.Pure
