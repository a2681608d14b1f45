/- What the reference of word asks, and what its word of a slot comes to. -/
import Derived.Test.YtbcmlgbhejcjbaaDoorS5
import Derived.Test.YtbcmlgbhejcjbaaDoorS3
import Derived.Test.YtbcmlgbhejcjbaaDoorS4
import Derived.Test.YtbcmlgbhejcjbaaDoorEv
import Derived.Test.YtbcmlgbhejcjbaaDoorHword
import Derived.Test.YtbcmlgbhejcjbaaDoorHwrong
namespace Go.Proofs.YtbcmlgbhejcjbaaDoor.Pure
open Go.RowKit Go.Proofs.YtbcmlgbhejcjbaaDoor.S Go.Proofs.YtbcmlgbhejcjbaaDoorW.PrintWords Go.Proofs.YtbcmlgbhejcjbaaDoorW.PrintLast
set_option linter.unusedVariables false
set_option linter.unusedSimpArgs false

def wrongV (a0 : Int) (l1 : List Int) (l2 : List S38) : Int :=
  if inB a0 0 10000 = false then 2 else if inB l1.length 1 8 = false then 2 else if loadsB l1 = false then 2 else if l2.length > 2000 then 4 else wrongG l1.length l2 none
theorem wrong_val (a0 : Int) (l1 : List Int) (l2 : List S38) : word_wrong.f a0 l1 l2 = some (wrongV a0 l1 l2) := rfl
theorem inB_iff (n a b : Int) : inB n a b = true ↔ a ≤ n ∧ n ≤ b := by unfold inB; simp
theorem inB_not (n a b : Int) : inB n a b = false ↔ ¬ (a ≤ n ∧ n ≤ b) := by rw [← inB_iff]; simp
theorem load_val (x : Int) : tipstaffref33_load.f x = some (inB x 0 10000) := by
  unfold tipstaffref33_load.f inB
  by_cases h : x ≥ 0
  · rw [if_pos h, decide_eq_true (show (0 : Int) ≤ x from h), Bool.true_and]
  · rw [if_neg h, decide_eq_false (show ¬ (0 : Int) ≤ x from h), Bool.false_and]
theorem validB_iff (e : S38) (n : Int) : validB e n = true ↔ 1 ≤ e.f4 ∧ e.f4 ≤ n ∧ 1 ≤ e.f5 ∧ e.f5 ≤ 6 ∧ 0 ≤ e.f6 ∧ e.f6 ≤ (if e.f5 = 1 then 10000 else 0) := by
  unfold validB
  simp only [Bool.and_eq_true, inB_iff]
  constructor
  · rintro ⟨⟨a, b⟩, ⟨c, d⟩, e, f⟩; exact ⟨a, b, c, d, e, f⟩
  · rintro ⟨a, b, c, d, e, f⟩; exact ⟨⟨a, b⟩, ⟨c, d⟩, e, f⟩
def oneV (e : S38) (n : Int) : Int := if e.f1 ≠ 1 ∧ e.f1 ≠ 2 then 11 else if e.f1 = 2 ∧ validB e n = false then 2 else 0
theorem one_val (e : S38) (n : Int) : tipstaffref33_one.f e.f0 e.f1 e.f2 e.f3 e.f4 e.f5 e.f6 n = some (oneV e n) := by
  unfold tipstaffref33_one.f oneV
  by_cases h1 : e.f1 = 1
  · rw [if_pos h1, if_neg (show ¬ (e.f1 ≠ 1 ∧ e.f1 ≠ 2) by omega), if_neg (show ¬ (e.f1 = 2 ∧ validB e n = false) by omega)]
  rw [if_neg h1]
  by_cases h2 : e.f1 = 2
  · rw [if_pos h2, if_neg (show ¬ (e.f1 ≠ 1 ∧ e.f1 ≠ 2) by omega)]
    have hv := validB_iff e n
    have no : ∀ (P : Prop), (validB e n = true → False) → (if e.f1 = 2 ∧ validB e n = false then (2 : Int) else 0) = 2 := fun _ h => if_pos ⟨h2, by cases hb : validB e n with | true => exact (h hb).elim | false => rfl⟩
    by_cases c1 : e.f4 < 1
    · rw [if_pos c1, no True (fun h => by have := hv.1 h; omega)]
    rw [if_neg c1]
    by_cases c2 : e.f4 > n
    · rw [if_pos c2, no True (fun h => by have := hv.1 h; omega)]
    rw [if_neg c2]
    by_cases c3 : e.f5 < 1
    · rw [if_pos c3, no True (fun h => by have := hv.1 h; omega)]
    rw [if_neg c3]
    by_cases c4 : e.f5 > 6
    · rw [if_pos c4, no True (fun h => by have := hv.1 h; omega)]
    rw [if_neg c4, load_val, Option.bind_some]
    by_cases c5 : inB e.f6 0 10000 = true
    · rw [if_pos c5]
      have c5' := (inB_iff _ _ _).1 c5
      by_cases c6 : e.f5 = 1
      · rw [if_pos c6] at hv ⊢
        rw [if_neg]
        rintro ⟨_, h⟩
        rw [hv.2 ⟨by omega, by omega, by omega, by omega, by omega, by omega⟩] at h; cases h
      · rw [if_neg c6] at hv ⊢
        by_cases c7 : e.f6 = 0
        · rw [if_pos c7, if_neg]
          rintro ⟨_, h⟩
          rw [hv.2 ⟨by omega, by omega, by omega, by omega, by omega, by omega⟩] at h; cases h
        · rw [if_neg c7, no True (fun h => by have := hv.1 h; omega)]
    · rw [if_neg c5]
      have c5' := (inB_not _ _ _).1 (by simpa using c5)
      rw [no True (fun h => by have := hv.1 h; split at this <;> omega)]
  · rw [if_neg h2, if_pos ⟨h1, h2⟩]

theorem entE_one (e : S38) (n : Int) (p : Option Int) : entE e n p = if inB e.f0 0 1099511627776 = false then 2 else if ordB e p = true then 8 else oneV e n := rfl

theorem asks_l1 (l1 : List Int) (l2 : List S38) (hl : l2.length ≤ 2000) : ∀ (d i : Nat), i + d = l2.length → Ev (fun k => tipstaffref33_asks.l1 k l1 l2 (i : Int)) (wrongG l1.length (l2.drop i) (prevO l2 i)) := by
  intro d
  induction d with
  | zero =>
    intro i hi
    refine (Ev.const _).step (fun k => ?_)
    rw [tipstaffref33_asks.l1, if_neg (by omega), List.drop_eq_nil_of_le (by omega)]; rfl
  | succ d ih =>
    intro i hi
    have ih := ih (i + 1) (by omega)
    rw [prevO_succ] at ih
    rw [rd38_drop l2 i (by omega), wrongG]
    obtain ⟨e, he⟩ : ∃ e, rd_T38 l2 (i : Int) = e := ⟨_, rfl⟩
    rw [he] at ih ⊢
    have start : ∀ v, Ev (fun k => tipstaffref33_asks.j3 k l1 l2 (i : Int) (!inB e.f0 0 1099511627776)) v → Ev (fun k => tipstaffref33_asks.l1 k l1 l2 (i : Int)) v := by
      intro v hv
      refine hv.step (fun k => ?_)
      rw [tipstaffref33_asks.l1, if_pos (by omega), if_pos (by omega), he]
      by_cases h : e.f0 < 0
      · rw [if_pos h, (inB_not e.f0 0 1099511627776).2 (by omega)]; rfl
      · rw [if_neg h]
        by_cases h2 : e.f0 > 1099511627776
        · rw [decide_eq_true h2, (inB_not e.f0 0 1099511627776).2 (by omega)]; rfl
        · rw [decide_eq_false h2, (inB_iff e.f0 0 1099511627776).2 (by omega)]; rfl
    refine start _ ?_
    rw [entE_one]
    cases hb : inB e.f0 0 1099511627776 with
    | false =>
      rw [if_pos rfl, if_neg (by decide)]
      refine (Ev.const _).step (fun k => ?_)
      rw [tipstaffref33_asks.j3, if_pos (show (!false) = true from rfl)]
    | true =>
      rw [if_neg (show ¬ (true = false) by decide)]
      have mid : ∀ v, Ev (fun k => tipstaffref33_asks.j4 k l1 l2 (i : Int) (ordB e (prevO l2 i))) v → Ev (fun k => tipstaffref33_asks.j3 k l1 l2 (i : Int) (!true)) v := by
        intro v hv
        refine hv.step (fun k => ?_)
        rw [tipstaffref33_asks.j3, if_neg (show ¬ ((!true) = true) by decide)]
        by_cases h0 : i = 0
        · rw [if_neg (by omega), show prevO l2 i = none by unfold prevO; rw [if_pos h0]]; rfl
        · rw [if_pos (by omega), if_pos (by omega), if_pos (by omega), wrap_id ((i : Int) - 1) (by omega) (by omega), if_pos (by omega), if_pos (by omega), he, show prevO l2 i = some (rd_T38 l2 ((i : Int) - 1)).f0 by unfold prevO; rw [if_neg h0]]; rfl
      refine mid _ ?_
      cases ho : ordB e (prevO l2 i) with
      | true =>
        rw [if_pos rfl, if_neg (show ¬ ((8 : Int) = 0) by decide)]
        refine (Ev.const _).step (fun k => ?_)
        rw [tipstaffref33_asks.j4, if_pos rfl]
      | false =>
        rw [if_neg (show ¬ (false = true) by decide)]
        by_cases h1 : oneV e l1.length = 0
        · rw [if_pos h1]
          refine ih.step (fun k => ?_)
          rw [tipstaffref33_asks.j4, if_neg (show ¬ (false = true) by decide), if_pos (by omega), if_pos (by omega), he, one_val, Option.bind_some, if_pos h1, wrap_succ i (by omega)]
        · rw [if_neg h1]
          refine (Ev.const _).step (fun k => ?_)
          rw [tipstaffref33_asks.j4, if_neg (show ¬ (false = true) by decide), if_pos (by omega), if_pos (by omega), he, one_val, Option.bind_some, if_neg h1]
theorem asks_l0 (l1 : List Int) (l2 : List S38) (hl1 : l1.length ≤ 1000) : ∀ (d i : Nat), i + d = l1.length → Ev (fun k => tipstaffref33_asks.l0 k l1 l2 (i : Int)) (if loadsB (l1.drop i) = false then 2 else if l2.length > 2000 then 4 else wrongG l1.length l2 none) := by
  intro d
  induction d with
  | zero =>
    intro i hi
    rw [List.drop_eq_nil_of_le (show l1.length ≤ i by omega), if_neg (by decide)]
    by_cases h : l2.length > 2000
    · rw [if_pos h]
      refine (Ev.const _).step (fun k => ?_)
      rw [tipstaffref33_asks.l0, if_neg (by omega), if_pos (by omega)]
    · rw [if_neg h]
      refine (asks_l1 l1 l2 (by omega) _ 0 (Nat.zero_add _)).step (fun k => ?_)
      rw [tipstaffref33_asks.l0, if_neg (by omega), if_neg (by omega)]; rfl
  | succ d ih =>
    intro i hi
    rw [rdi_drop l1 i (by omega), loadsB]
    by_cases h : inB (rd l1 (i : Int)) 0 10000 = true
    · rw [if_pos h]
      refine (ih (i + 1) (by omega)).step (fun k => ?_)
      rw [tipstaffref33_asks.l0, if_pos (by omega), if_pos (by omega), load_val, Option.bind_some, if_pos h, wrap_succ i (by omega)]
    · rw [if_neg h, if_pos rfl]
      refine (Ev.const _).step (fun k => ?_)
      rw [tipstaffref33_asks.l0, if_pos (by omega), if_pos (by omega), load_val, Option.bind_some, if_neg h]
theorem asks_val (a0 : Int) (l1 : List Int) (l2 : List S38) : Ev (fun k => tipstaffref33_asks.f k a0 l1 l2) (wrongV a0 l1 l2) := by
  unfold wrongV
  have two : Ev (fun k => tipstaffref33_asks.j0 k l1 l2 true) 2 := by
    refine (Ev.const _).step (fun k => ?_)
    rw [tipstaffref33_asks.j0, if_pos rfl]
  by_cases h0 : inB a0 0 10000 = true
  · rw [if_neg (by rw [h0]; decide)]
    by_cases h1 : inB l1.length 1 8 = true
    · rw [if_neg (by rw [h1]; decide)]
      have h1' := (inB_iff _ _ _).1 h1
      refine Ev.congr (g' := fun k => tipstaffref33_asks.j0 k l1 l2 false) ?_ (fun k => by rw [tipstaffref33_asks.f, load_val, Option.bind_some, if_pos h0, if_neg (by omega), decide_eq_false (by omega)])
      refine (asks_l0 l1 l2 (by omega) _ 0 (Nat.zero_add _)).step (fun k => ?_)
      rw [tipstaffref33_asks.j0, if_neg (by decide)]; rfl
    · have h1' := (inB_not _ _ _).1 (by simpa using h1)
      rw [if_pos (by simpa using h1)]
      refine two.congr (fun k => ?_)
      rw [tipstaffref33_asks.f, load_val, Option.bind_some, if_pos h0]
      by_cases h2 : (l1.length : Int) < 1
      · rw [if_pos h2]
      · rw [if_neg h2, decide_eq_true (by omega)]
  · rw [if_pos (by simpa using h0)]
    refine two.congr (fun k => ?_)
    rw [tipstaffref33_asks.f, load_val, Option.bind_some, if_neg h0]

/-- What a list that is not wrong is like. -/
theorem wrongV_ok {a0 : Int} {l1 : List Int} {l2 : List S38} (h : wrongV a0 l1 l2 = 0) : (1 ≤ l1.length ∧ l1.length ≤ 8) ∧ l2.length ≤ 2000 ∧ wrongG l1.length l2 none = 0 := by
  unfold wrongV at h
  by_cases h0 : inB a0 0 10000 = false
  · rw [if_pos h0] at h; exact absurd h (by decide)
  rw [if_neg h0] at h
  by_cases h1 : inB l1.length 1 8 = false
  · rw [if_pos h1] at h; exact absurd h (by decide)
  rw [if_neg h1] at h
  by_cases h2 : loadsB l1 = false
  · rw [if_pos h2] at h; exact absurd h (by decide)
  rw [if_neg h2] at h
  by_cases h3 : l2.length > 2000
  · rw [if_pos h3] at h; exact absurd h (by decide)
  rw [if_neg h3] at h
  have h1' := (inB_iff _ _ _).1 (by simpa using h1)
  exact ⟨by omega, by omega, h⟩
/-- An entry that does something does it to a car that there is. -/
def entGood (n : Nat) (e : S38) : Prop := (0 ≤ e.f0 ∧ e.f0 ≤ 1099511627776) ∧ (e.f1 = 2 → 1 ≤ e.f4 ∧ e.f4 ≤ (n : Int) ∧ 1 ≤ e.f5 ∧ e.f5 ≤ 6)
theorem entE_good {n : Nat} {e : S38} {p : Option Int} (h : entE e n p = 0) : entGood n e ∧ ∀ q, p = some q → q ≤ e.f0 := by
  rw [entE_one] at h
  by_cases h0 : inB e.f0 0 1099511627776 = false
  · rw [if_pos h0] at h; exact absurd h (by decide)
  rw [if_neg h0] at h
  by_cases h1 : ordB e p = true
  · rw [if_pos h1] at h; exact absurd h (by decide)
  rw [if_neg h1] at h
  have h0' := (inB_iff _ _ _).1 (by simpa using h0)
  refine ⟨⟨h0', fun h2 => ?_⟩, fun q hq => ?_⟩
  · unfold oneV at h
    rw [if_neg (by omega)] at h
    by_cases hv : validB e n = true
    · have := (validB_iff e n).1 hv; omega
    · rw [if_pos ⟨h2, by simpa using hv⟩] at h; exact absurd h (by decide)
  · subst hq
    have h1 : ¬ decide (e.f0 < q) = true := h1
    simp at h1; exact h1
theorem wrongG_good (n : Nat) : ∀ (l : List S38) (p : Option Int), wrongG n l p = 0 → ∀ e ∈ l, entGood n e
  | [], p, h, e, he => by simp at he
  | x :: xs, p, h, e, he => by
    rw [wrongG] at h
    by_cases hx : entE x n p = 0
    · rw [if_pos hx] at h
      rcases List.mem_cons.1 he with rfl | he
      · exact (entE_good hx).1
      · exact wrongG_good n xs _ h e he
    · rw [if_neg hx] at h; exact absurd h hx

end Go.Proofs.YtbcmlgbhejcjbaaDoor.Pure
