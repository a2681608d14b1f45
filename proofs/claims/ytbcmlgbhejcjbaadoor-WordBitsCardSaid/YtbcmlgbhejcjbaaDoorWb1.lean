/- Words, cars and texts: what the program's and the reference's functions come to. -/
import Derived.Test.YtbcmlgbhejcjbaaDoorS10
import Derived.Test.YtbcmlgbhejcjbaaDoorS14
import Derived.Test.YtbcmlgbhejcjbaaDoorS17
import Derived.Test.YtbcmlgbhejcjbaaDoorEv
import Derived.Test.YtbcmlgbhejcjbaaDoorHwrong
import Derived.Test.YtbcmlgbhejcjbaaDoorHparse
import Derived.Test.YtbcmlgbhejcjbaaDoorWd2
namespace Go.Proofs.YtbcmlgbhejcjbaaDoor.Pure
open Go.RowKit Go.Proofs.YtbcmlgbhejcjbaaDoor.S Go.Proofs.YtbcmlgbhejcjbaaDoorW.PrintWords Go.Proofs.YtbcmlgbhejcjbaaDoorW.PrintLast
set_option linter.unusedVariables false
set_option linter.unusedSimpArgs false

def carsL (w c : Nat) : List Int := ((List.range c).filter (fun i => w.testBit i)).map (fun i : Nat => (i : Int) + 1)
def textB (w c : Nat) : ByteArray := strOfNums ((List.range c).map (fun i => if w.testBit i then 49 else 48))

/-- The error of cars and words. -/
def okW (c : Int) (l : List Int) : Int := if inB c 1 8 = true ∧ ∀ x ∈ l, 0 ≤ x ∧ x < 2 ^ c.toNat then 0 else 2
instance (c : Int) (l : List Int) : Decidable (inB c 1 8 = true ∧ ∀ x ∈ l, 0 ≤ x ∧ x < 2 ^ c.toNat) := inferInstance
theorem shl_fin : ∀ i : Fin 9, wrap64 ((shl .i64 1 (i.val : Int)) - 1) = 2 ^ i.val - 1 := by decide +kernel
theorem words_loop (c : Nat) (hc : c ≤ 8) (l : List Int) (hl : l.length ≤ 1000) : ∀ (d i : Nat), i + d = l.length → Ev (fun k => word_words.l0 k (c : Int) l (l.length : Int) (i : Int)) (if ∀ x ∈ l.drop i, 0 ≤ x ∧ x < 2 ^ c then 0 else 2) := by
  intro d
  induction d with
  | zero =>
    intro i hi
    rw [List.drop_eq_nil_of_le (by omega), if_pos (by simp)]
    refine (Ev.const _).step (fun k => ?_)
    rw [word_words.l0, if_neg (by omega)]
  | succ d ih =>
    intro i hi
    rw [rdi_drop l i (by omega)]
    have hs : wrap64 ((shl .i64 1 (c : Int)) - 1) = 2 ^ c - 1 := shl_fin ⟨c, by omega⟩
    by_cases h : inB (rd l (i : Int)) 0 (2 ^ c - 1) = true
    · have h' := (inB_iff _ _ _).1 h
      refine Ev.val ((ih (i + 1) (by omega)).step (fun k => ?_)) ?_
      · rw [word_words.l0, if_pos (by omega), if_pos (by omega), if_pos (by omega), if_pos (by omega), hs, in_val, Option.bind_some, if_pos h, wrap_succ i (by omega)]
      · by_cases hr : ∀ x ∈ l.drop (i + 1), 0 ≤ x ∧ x < 2 ^ c
        · rw [if_pos hr, if_pos]
          intro x hx
          rcases List.mem_cons.1 hx with rfl | hx
          · omega
          · exact hr x hx
        · rw [if_neg hr, if_neg (fun h => hr (fun x hx => h x (by simp [hx])))]
    · have h' := (inB_not _ _ _).1 (by simpa using h)
      rw [if_neg (fun h => by have := h (rd l (i : Int)) (by simp); omega)]
      refine (Ev.const _).step (fun k => ?_)
      rw [word_words.l0, if_pos (by omega), if_pos (by omega), if_pos (by omega), if_pos (by omega), hs, in_val, Option.bind_some, if_neg h]
theorem words_val (c : Int) (l : List Int) (hl : l.length ≤ 1000) : Ev (fun k => word_words.f k c l) (okW c l) := by
  unfold okW
  by_cases h : inB c 1 8 = true
  · have h' := (inB_iff _ _ _).1 h
    obtain ⟨n, rfl⟩ : ∃ n : Nat, c = n := ⟨c.toNat, by omega⟩
    refine Ev.val ((words_loop n (by omega) l hl _ 0 (Nat.zero_add _)).congr (fun k => ?_)) ?_
    · rw [word_words.f, in_val, Option.bind_some, if_pos h]; rfl
    · rw [List.drop_zero, Int.toNat_natCast]
      by_cases hx : ∀ x ∈ l, 0 ≤ x ∧ x < (2 : Int) ^ n
      · rw [if_pos hx, if_pos ⟨h, hx⟩]
      · rw [if_neg hx, if_neg (fun h => hx h.2)]
  · rw [if_neg (fun hh => h hh.1)]
    exact (Ev.const _).congr (fun k => by rw [word_words.f, in_val, Option.bind_some, if_neg h])

theorem rwords_fin : ∀ i : Fin 9, tipstaffref33_words.f 20 (i.val : Int) = some ((2 ^ i.val : Nat) : Int) := by decide +kernel
theorem rwords_ev (i : Nat) (h : i ≤ 8) : Ev (fun k => tipstaffref33_words.f k (i : Int)) ((2 ^ i : Nat) : Int) := Ev.mono_at 20 (rwords_fin ⟨i, by omega⟩) (fun k => tipstaffref33_words.mono _ k)
theorem rvalid_val (a c : Int) : Ev (fun k => tipstaffref33_valid.f k a c) (okW c [a]) := by
  unfold okW
  by_cases h1 : c < 1
  · rw [if_neg (fun h => by have := (inB_iff _ _ _).1 h.1; omega)]
    exact (Ev.const _).congr (fun k => by rw [tipstaffref33_valid.f, if_pos h1])
  by_cases h2 : c > 8
  · rw [if_neg (fun h => by have := (inB_iff _ _ _).1 h.1; omega)]
    exact (Ev.const _).congr (fun k => by rw [tipstaffref33_valid.f, if_neg h1, if_pos h2])
  by_cases h3 : a < 0
  · rw [if_neg (fun h => by have := h.2 a (by simp); omega)]
    exact (Ev.const _).congr (fun k => by rw [tipstaffref33_valid.f, if_neg h1, if_neg h2, if_pos h3])
  obtain ⟨n, rfl⟩ : ∃ n : Nat, c = n := ⟨c.toNat, by omega⟩
  refine Ev.congr (g' := fun k => (tipstaffref33_words.f k (n : Int)).bind fun t422 => (if a ≥ t422 then (some 2) else (some 0))) ?_ (fun k => by rw [tipstaffref33_valid.f, if_neg h1, if_neg h2, if_neg h3])
  refine (rwords_ev n (by omega)).bind (f := fun t422 _ => (if a ≥ t422 then (some 2) else (some 0))) (Ev.of_eq ?_)
  have e : ((2 ^ n : Nat) : Int) = (2 : Int) ^ n := by simp
  rw [Int.toNat_natCast]
  by_cases h4 : a ≥ ((2 ^ n : Nat) : Int)
  · rw [if_pos h4, if_neg (fun h => by have := h.2 a (by simp); omega)]
  · rw [if_neg h4, if_pos ⟨(inB_iff _ _ _).2 (by omega), by intro x hx; rw [List.mem_singleton.1 hx]; omega⟩]
theorem rbit_fin : ∀ w : Fin 256, ∀ i : Fin 8, tipstaffref33_bit.f 20 (w.val : Int) ((i.val + 1 : Nat) : Int) = some (w.val.testBit i.val) := by decide +kernel
theorem rbit_ev (w i : Nat) (hw : w < 256) (hi : i < 8) : Ev (fun k => tipstaffref33_bit.f k (w : Int) ((i + 1 : Nat) : Int)) (w.testBit i) := Ev.mono_at 20 (rbit_fin ⟨w, hw⟩ ⟨i, hi⟩) (fun k => tipstaffref33_bit.mono _ _ k)

/-- The word of some cars. -/
def makeV (c : Int) : List Int → Nat → Int × Int
  | [], w => ((w : Int), 0)
  | x :: xs, w => if inB x 1 c = true then makeV c xs (w ||| 2 ^ (x - 1).toNat) else (0, 2)
theorem or_step : ∀ w : Fin 256, ∀ i : Fin 8, Go.bits .or .u64 (w.val : Int) (shl .u64 1 (i.val : Int)) = ((w.val ||| 2 ^ i.val : Nat) : Int) ∧ w.val ||| 2 ^ i.val < 256 ∧ (if w.val.testBit i.val then w.val ||| 2 ^ i.val = w.val else w.val ||| 2 ^ i.val = w.val + 2 ^ i.val) := by decide +kernel
theorem make_loop (c : Int) (hc : c ≤ 8) (l : List Int) (hl : l.length ≤ 1000000) : ∀ (d i w : Nat), i + d = l.length → w < 256 → Ev (fun k => word_Make.l0 k c (w : Int) l (l.length : Int) (i : Int)) (makeV c (l.drop i) w) := by
  intro d
  induction d with
  | zero =>
    intro i w hi hw
    rw [List.drop_eq_nil_of_le (by omega)]
    refine (Ev.const _).step (fun k => ?_)
    rw [word_Make.l0, if_neg (by omega), wrap_id _ (by omega) (by omega)]; rfl
  | succ d ih =>
    intro i w hi hw
    rw [rdi_drop l i (by omega), makeV]
    by_cases h : inB (rd l (i : Int)) 1 c = true
    · have h' := (inB_iff _ _ _).1 h
      obtain ⟨n, hn⟩ : ∃ n : Nat, rd l (i : Int) - 1 = n := ⟨(rd l (i : Int) - 1).toNat, by omega⟩
      have hs := or_step ⟨w, hw⟩ ⟨n, by omega⟩
      rw [if_pos h, hn, Int.toNat_natCast]
      refine (ih (i + 1) (w ||| 2 ^ n) (by omega) hs.2.1).step (fun k => ?_)
      rw [word_Make.l0, if_pos (by omega), if_pos (by omega), if_pos (by omega), in_val, Option.bind_some, if_pos h, wrap_id (rd l (i : Int) - 1) (by omega) (by omega), if_pos (by omega), hn, hs.1, wrap_succ i (by omega)]
    · rw [if_neg h]
      refine (Ev.const _).step (fun k => ?_)
      rw [word_Make.l0, if_pos (by omega), if_pos (by omega), if_pos (by omega), in_val, Option.bind_some, if_neg h]
def makeT (l : List Int) (c : Int) : Int × Int := if inB c 1 8 = true then makeV c l 0 else (0, 2)
theorem ok_nil (c : Int) : okW c [] = if inB c 1 8 = true then 0 else 2 := by
  unfold okW
  by_cases h : inB c 1 8 = true
  · rw [if_pos h, if_pos ⟨h, by simp⟩]
  · rw [if_neg h, if_neg (fun hh => h hh.1)]
theorem ok_zero (c : Int) : okW c [0] = if inB c 1 8 = true then 0 else 2 := by
  unfold okW
  by_cases h : inB c 1 8 = true
  · rw [if_pos h, if_pos ⟨h, by intro x hx; rw [List.mem_singleton.1 hx]; exact ⟨Int.le_refl 0, Int.pow_pos (by decide)⟩⟩]
  · rw [if_neg h, if_neg (fun hh => h hh.1)]
theorem make_val (l : List Int) (c : Int) (hl : l.length ≤ 1000000) : Ev (fun k => word_Make.f k l c) (makeT l c) := by
  refine Ev.congr (g' := fun k => (word_words.f k c []).bind fun t419 => (if t419 = 0 then (word_Make.l0 k c 0 l (l.length : Int) 0) else (some (0, t419)))) ?_ (fun k => by rw [word_Make.f])
  refine (words_val c [] (by simp)).bind (f := fun t419 k => (if t419 = 0 then (word_Make.l0 k c 0 l (l.length : Int) 0) else (some (0, t419)))) ?_
  rw [ok_nil]
  unfold makeT
  by_cases h : inB c 1 8 = true
  · have h' := (inB_iff _ _ _).1 h
    rw [if_pos h, if_pos h]
    exact (make_loop c h'.2 l hl _ 0 0 (Nat.zero_add _) (by omega)).congr (fun k => by rw [if_pos rfl]; rfl)
  · rw [if_neg h, if_neg h]
    exact (Ev.const _).congr (fun k => by rw [if_neg (by decide)])
theorem rmake_loop (c : Int) (hc : c ≤ 8) (l : List Int) (hl : l.length ≤ 1000000) : ∀ (d i w : Nat), i + d = l.length → w < 256 → Ev (fun k => tipstaffref33_Make.l0 k l c (w : Int) (i : Int)) (makeV c (l.drop i) w) := by
  intro d
  induction d with
  | zero =>
    intro i w hi hw
    rw [List.drop_eq_nil_of_le (by omega)]
    refine (Ev.const _).step (fun k => ?_)
    rw [tipstaffref33_Make.l0, if_neg (by omega)]; rfl
  | succ d ih =>
    intro i w hi hw
    rw [rdi_drop l i (by omega), makeV]
    have bad : Ev (fun k => tipstaffref33_Make.j1 k l c (w : Int) (i : Int) true) (0, 2) := by
      refine (Ev.const _).step (fun k => ?_)
      rw [tipstaffref33_Make.j1, if_pos rfl]
    by_cases h : inB (rd l (i : Int)) 1 c = true
    · have h' := (inB_iff _ _ _).1 h
      obtain ⟨n, hn⟩ : ∃ n : Nat, rd l (i : Int) - 1 = n := ⟨(rd l (i : Int) - 1).toNat, by omega⟩
      have hr : rd l (i : Int) = ((n + 1 : Nat) : Int) := by omega
      have hs := or_step ⟨w, hw⟩ ⟨n, by omega⟩
      have ih := ih (i + 1) (w ||| 2 ^ n) (by omega) hs.2.1
      rw [if_pos h, hn, Int.toNat_natCast]
      refine Ev.step (g' := fun k => tipstaffref33_Make.j1 k l c (w : Int) (i : Int) false) ?_ (fun k => by rw [tipstaffref33_Make.l0, if_pos (by omega), if_pos (by omega), if_neg (by omega), decide_eq_false (by omega)])
      refine Ev.step (g' := fun k => (tipstaffref33_bit.f k (w : Int) ((n + 1 : Nat) : Int)).bind fun t428 => (if t428 = true then (tipstaffref33_Make.l0 k l c (w : Int) ((i + 1 : Nat) : Int)) else ((tipstaffref33_words.f k (n : Int)).bind fun t430 => (tipstaffref33_Make.l0 k l c (wrap64 ((w : Int) + t430)) ((i + 1 : Nat) : Int))))) ?_ (fun k => by
        rw [tipstaffref33_Make.j1, if_neg (by decide), if_pos (by omega), if_pos (by omega), wrap_id (rd l (i : Int) - 1) (by omega) (by omega), hn, hr, wrap_succ i (by omega)])
      refine (rbit_ev w n hw (by omega)).bind (f := fun t428 k => (if t428 = true then (tipstaffref33_Make.l0 k l c (w : Int) ((i + 1 : Nat) : Int)) else ((tipstaffref33_words.f k (n : Int)).bind fun t430 => (tipstaffref33_Make.l0 k l c (wrap64 ((w : Int) + t430)) ((i + 1 : Nat) : Int))))) ?_
      have hs2 := hs.2.2
      by_cases hb : w.testBit n = true
      · rw [if_pos hb] at hs2
        rw [show w ||| 2 ^ n = w from hs2] at ih
        rw [show w ||| 2 ^ n = w from hs2]
        exact ih.congr (fun k => by rw [if_pos hb])
      · rw [if_neg hb] at hs2
        have hs3 : w ||| 2 ^ n = w + 2 ^ n := hs2
        have hb2 := hs.2.1
        refine Ev.congr (g' := fun k => (tipstaffref33_words.f k (n : Int)).bind fun t430 => (tipstaffref33_Make.l0 k l c (wrap64 ((w : Int) + t430)) ((i + 1 : Nat) : Int))) ?_ (fun k => by rw [if_neg hb])
        refine (rwords_ev n (by omega)).bind (f := fun t430 k => (tipstaffref33_Make.l0 k l c (wrap64 ((w : Int) + t430)) ((i + 1 : Nat) : Int))) ?_
        have e : wrap64 ((w : Int) + ((2 ^ n : Nat) : Int)) = ((w ||| 2 ^ n : Nat) : Int) := by
          rw [hs3, wrap_id _ (by omega) (by have : w ||| 2 ^ n < 256 := hb2; omega)]; omega
        rw [e]; exact ih
    · have h' := (inB_not _ _ _).1 (by simpa using h)
      rw [if_neg h]
      refine bad.step (fun k => ?_)
      rw [tipstaffref33_Make.l0, if_pos (by omega), if_pos (by omega)]
      by_cases h1 : rd l (i : Int) < 1
      · rw [if_pos h1]
      · rw [if_neg h1, decide_eq_true (by omega)]
theorem rmake_val (l : List Int) (c : Int) (hl : l.length ≤ 1000000) : Ev (fun k => tipstaffref33_Make.f k l c) (makeT l c) := by
  refine Ev.congr (g' := fun k => (tipstaffref33_valid.f k 0 c).bind fun t424 => (if t424 = 0 then (tipstaffref33_Make.l0 k l c 0 0) else (some (0, t424)))) ?_ (fun k => by rw [tipstaffref33_Make.f])
  refine (rvalid_val 0 c).bind (f := fun t424 k => (if t424 = 0 then (tipstaffref33_Make.l0 k l c 0 0) else (some (0, t424)))) ?_
  rw [ok_zero]
  unfold makeT
  by_cases h : inB c 1 8 = true
  · have h' := (inB_iff _ _ _).1 h
    rw [if_pos h, if_pos h]
    exact (rmake_loop c h'.2 l hl _ 0 0 (Nat.zero_add _) (by omega)).congr (fun k => by rw [if_pos rfl]; rfl)
  · rw [if_neg h, if_neg h]
    exact (Ev.const _).congr (fun k => by rw [if_neg (by decide)])

end Go.Proofs.YtbcmlgbhejcjbaaDoor.Pure
