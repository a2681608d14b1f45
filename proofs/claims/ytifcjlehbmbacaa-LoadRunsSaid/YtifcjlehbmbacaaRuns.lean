/- The held bands of a history, and where they change: what the program's and the reference's functions come to. -/
import Derived.Test.YtifcjlehbmbacaaS8
import Derived.Test.YtifcjlehbmbacaaS17
import Derived.Test.YtifcjlehbmbacaaS18
import Derived.Test.YtifcjlehbmbacaaS19
import Derived.Test.YtifcjlehbmbacaaLoads
import Derived.Test.YtifcjlehbmbacaaRefs
namespace Go.Proofs.Ytifcjlehbmbacaa.Pure
open Go.RowKit Go.Proofs.Ytifcjlehbmbacaa.S Go.Proofs.YtifcjlehbmbacaaW.PrintWords Go.Proofs.YtifcjlehbmbacaaW.PrintLast
set_option linter.unusedVariables false
set_option linter.unusedSimpArgs false

theorem bnd_rng (e f n : Int) : 1 ≤ bnd e f n ∧ bnd e f n ≤ 3 := by unfold bnd; (repeat' split) <;> omega
theorem hld_rng (e f s b n : Int) : 1 ≤ hld e f s b n ∧ hld e f s b n ≤ 3 := by unfold hld bnd; (repeat' split) <;> omega
theorem hld_bnd {e f s : Int} (h : chk e f s = 0) (n : Int) : hld e f s (bnd e f n) n = bnd e f n := by
  have := chk_zero h
  unfold hld bnd; (repeat' split) <;> omega

def heldL (e f s b : Int) : List Int → List Int
  | [] => []
  | n :: t => hld e f s b n :: heldL e f s (hld e f s b n) t
def runL (e f s : Int) : List Int → List Int
  | [] => []
  | n :: t => bnd e f n :: heldL e f s (bnd e f n) t
theorem heldL_length (e f s b : Int) (l : List Int) : (heldL e f s b l).length = l.length := by
  induction l generalizing b with
  | nil => rfl
  | cons n t ih => simp [heldL, ih]
theorem runL_length (e f s : Int) (l : List Int) : (runL e f s l).length = l.length := by
  cases l with
  | nil => rfl
  | cons n t => simp [runL, heldL_length]

theorem run_loop (e f s : Int) (hc : chk e f s = 0) (l : List Int) (hl : l.length ≤ 2000) : ∀ (d k i : Nat) (acc : List Int) (b : Int), 1 ≤ i → i + d = l.length → acc.length = i → d + 1 < k → 1 ≤ b → b ≤ 3 →
    load_Run.l0 k acc b l (l.length : Int) (i : Int) e f s = some (acc ++ heldL e f s b (l.drop i), 0) := by
  intro d
  induction d with
  | zero =>
    intro k i acc b h1 hi ha hk hb hb'
    obtain ⟨k, rfl, hk⟩ := succ_of hk
    unfold load_Run.l0
    rw [if_neg (by omega), List.drop_eq_nil_of_le (by omega)]; simp [heldL]
  | succ d ih =>
    intro k i acc b h1 hi ha hk hb hb'
    obtain ⟨k, rfl, hk⟩ := succ_of hk
    unfold load_Run.l0
    rw [if_pos (by omega), if_pos (by omega), if_pos (by omega), if_neg (by omega), after_val (by omega) _ _ _ _ _ hc hb hb']
    simp only [Option.bind_some, if_true, if_false]
    have hr := hld_rng e f s b (rd l (i : Int))
    rw [if_pos (by omega), wrap_succ i (by omega), ih k (i + 1) _ _ (by omega) (by omega) (by simp [ha]) (by omega) hr.1 hr.2, drop_rd l i (by omega)]
    simp [heldL]

theorem run_loop0 (e f s : Int) (hc : chk e f s = 0) (l : List Int) (hl : l.length ≤ 2000) {k : Nat} (hk : 2005 ≤ k) :
    load_Run.l0 k [] 2 l (l.length : Int) 0 e f s = some (runL e f s l, 0) := by
  obtain ⟨k, rfl, hk⟩ := succ_of (d := 2004) hk
  unfold load_Run.l0
  cases l with
  | nil => simp [runL]
  | cons n t =>
    have hn : rd (n :: t) 0 = n := rfl
    rw [if_pos (by simp), if_pos (by omega), if_pos (by simp), if_pos rfl, hn, of_val]
    simp only [Option.bind_some, if_true, if_false]
    have hr := bnd_rng e f n
    rw [after_val (by omega) _ _ _ _ _ hc hr.1 hr.2, hld_bnd hc]
    simp only [Option.bind_some, if_true, if_false]
    rw [if_pos (by simp)]
    have := run_loop e f s hc (n :: t) hl t.length k 1 [bnd e f n] (bnd e f n) (by omega) (by simp; omega) (by simp) (by simp at hl; omega) hr.1 hr.2
    simpa [runL, wrap64] using this

/-- What 'Run' answers. -/
def runV (e f s : Int) (l : List Int) : List Int × Int :=
  if chk e f s = 0 then (if (l.length : Int) > 2000 then ([], 4) else if loadsV l = 0 then (runL e f s l, 0) else ([], 2)) else ([], chk e f s)
theorem loadsV_two (l : List Int) : loadsV l = 0 ∨ loadsV l = 2 := by unfold loadsV; split <;> simp
theorem run_val (e f s : Int) (l : List Int) {k : Nat} (hk : 2005 ≤ k) : load_Run.f k e f s l = some (runV e f s l) := by
  unfold load_Run.f runV
  rw [chk_val (by omega)]
  simp only [Option.bind_some, if_true, if_false]
  by_cases h0 : chk e f s = 0
  · rw [if_pos h0, if_pos h0]
    by_cases h1 : (l.length : Int) > 2000
    · rw [if_pos h1, loads_long l h1]; simp
    · rw [if_neg h1, loads_val l (by omega) (by omega)]
      simp only [Option.bind_some, if_true, if_false]
      rcases loadsV_two l with h2 | h2
      · rw [if_pos h2, if_pos h2, run_loop0 e f s h0 l (by omega) hk]
      · rw [h2]; rfl
  · rw [if_neg h0, if_neg h0]

/-! The reference. -/
theorem ref_loop1 (e f s : Int) (hc : chk e f s = 0) (l : List Int) (hl : l.length ≤ 2000) : ∀ (d k i : Nat) (acc : List Int) (b : Int), i + 1 + d = l.length → acc.length = i → d + 1 < k →
    tipstaffref11_Run.l1 k l (acc ++ [b]) ((i + 1 : Nat) : Int) e f s = some (acc ++ [b] ++ heldL e f s b (l.drop (i + 1)), 0) := by
  intro d
  induction d with
  | zero =>
    intro k i acc b hi ha hk
    obtain ⟨k, rfl, hk⟩ := succ_of hk
    unfold tipstaffref11_Run.l1
    rw [if_neg (by omega), List.drop_eq_nil_of_le (by omega)]; simp [heldL]
  | succ d ih =>
    intro k i acc b hi ha hk
    obtain ⟨k, rfl, hk⟩ := succ_of hk
    unfold tipstaffref11_Run.l1
    have e1 : wrap64 (((i + 1 : Nat) : Int) - 1) = (i : Int) := by rw [wrap_id _ (by omega) (by omega)]; omega
    have e2 : rd (acc ++ [b]) (i : Int) = b := by rw [rd_nat _ _ (by simp [ha])]; simp [← ha]
    rw [if_pos (by omega), if_neg (by omega), e1, if_pos (by omega), if_pos (by simp [ha]; omega), if_pos (by omega), e2, ref_held_fn (by omega) _ _ _ _ _ hc]
    simp only [Option.bind_some, if_true, if_false]
    rw [if_pos (by simp [ha]; omega), wrap_succ (i + 1) (by omega)]
    have := ih k (i + 1) (acc ++ [b]) (hld e f s b (rd l ((i + 1 : Nat) : Int))) (by omega) (by simp [ha]) (by omega)
    rw [this, drop_rd l (i + 1) (by omega)]
    simp [heldL]

theorem ref_loop10 (e f s : Int) (hc : chk e f s = 0) (l : List Int) (hl : l.length ≤ 2000) {k : Nat} (hk : 2005 ≤ k) :
    tipstaffref11_Run.l1 k l [] 0 e f s = some (runL e f s l, 0) := by
  obtain ⟨k, rfl, hk⟩ := succ_of (d := 2004) hk
  unfold tipstaffref11_Run.l1
  cases l with
  | nil => simp [runL]
  | cons n t =>
    have hn : rd (n :: t) 0 = n := rfl
    rw [if_pos (by simp), if_pos rfl, if_pos (by simp), hn, ref_band_fn]
    simp only [Option.bind_some, if_true, if_false]
    rw [if_pos (by simp)]
    have := ref_loop1 e f s hc (n :: t) hl t.length k 0 [] (bnd e f n) (by simp; omega) (by simp) (by simp at hl; omega)
    simpa [runL, wrap64] using this

theorem ref_loop_bad (e f s x : Int) (hx : x ≠ 0) (l : List Int) (i : Int) {k : Nat} (hk : 2 ≤ k) : tipstaffref11_Run.l0 k l x i e f s = some ([], x) := by
  obtain ⟨k, rfl, hk1⟩ := succ_of (d := 1) hk
  obtain ⟨k, rfl, hk2⟩ := succ_of (d := 0) hk1
  unfold tipstaffref11_Run.l0
  have : (x == 0) = false := by simpa using hx
  rw [this]
  split <;> (unfold tipstaffref11_Run.j3; simp [hx])

theorem ref_loop0 (e f s : Int) (hc : chk e f s = 0) (l : List Int) (hl : l.length ≤ 2000) : ∀ (d k i : Nat), i + d = l.length → 2 * d + 2010 < k →
    tipstaffref11_Run.l0 k l 0 (i : Int) e f s = some (if loadsV (l.drop i) = 0 then (runL e f s l, 0) else ([], 2)) := by
  intro d
  induction d with
  | zero =>
    intro k i hi hk
    obtain ⟨k, rfl, hk⟩ := succ_of hk
    obtain ⟨k, rfl, hk⟩ := succ_of (k := k) (d := 2009) (by omega)
    unfold tipstaffref11_Run.l0
    rw [if_neg (by omega), List.drop_eq_nil_of_le (by omega)]
    unfold tipstaffref11_Run.j3
    have h0 : loadsV [] = 0 := rfl
    simp [ref_loop10 e f s hc l hl (show 2005 ≤ k by omega), h0]
  | succ d ih =>
    intro k i hi hk
    obtain ⟨k, rfl, hk⟩ := succ_of hk
    obtain ⟨k, rfl, hk⟩ := succ_of (k := k) (d := 2 * d + 2011) (by omega)
    unfold tipstaffref11_Run.l0
    rw [if_pos (by omega)]
    unfold tipstaffref11_Run.j3
    rw [if_pos (by decide), if_pos (by omega), if_pos (by omega), ref_load_val, drop_rd l i (by omega)]
    simp only [Option.bind_some, if_true, if_false]
    by_cases hx : isL (rd l (i : Int)) = true
    · rw [if_pos hx, wrap_succ i (by omega), ih k (i + 1) (by omega) (by omega)]
      unfold loadsV; simp [hx]
    · rw [if_neg hx, ref_loop_bad e f s 2 (by omega) l _ (by omega)]
      unfold loadsV; simp [hx]

theorem ref_run_val (e f s : Int) (hf : I64 f) (hs : I64 s) (l : List Int) {k : Nat} (hk : 6100 ≤ k) : tipstaffref11_Run.f k e f s l = some (runV e f s l) := by
  unfold tipstaffref11_Run.f runV
  rw [ref_chk_val (by omega) _ _ _ hf hs]
  simp only [Option.bind_some, if_true, if_false]
  obtain ⟨k, rfl, hk⟩ := succ_of (d := 6099) hk
  obtain ⟨k, rfl, hk⟩ := succ_of (k := k) (d := 6098) (by omega)
  by_cases h0 : chk e f s = 0
  · rw [if_pos h0, if_pos h0, h0, tipstaffref11_Run.j0]
    by_cases h1 : (l.length : Int) > 2000
    · rw [if_pos h1, if_pos (decide_eq_true h1), tipstaffref11_Run.j1]
      exact ref_loop_bad e f s 4 (by omega) l 0 (by omega)
    · rw [if_neg h1, if_neg (by simpa using h1), tipstaffref11_Run.j1]
      have := ref_loop0 e f s h0 l (by omega) l.length k 0 (by omega) (by omega)
      simp only [List.drop_zero] at this
      rw [show ((0 : Nat) : Int) = 0 from rfl] at this
      rw [this]
  · rw [if_neg h0, if_neg h0, tipstaffref11_Run.j0, if_neg (by decide), tipstaffref11_Run.j1]
    exact ref_loop_bad e f s _ h0 l 0 (by omega)

theorem changes_same_loop : ∀ k x y i, load_Changes.l0 k x y i = tipstaffref11_Changes.l0 k x y i := by
  intro k
  induction k with
  | zero => intro x y i; rfl
  | succ k ih => intro x y i; unfold load_Changes.l0 tipstaffref11_Changes.l0; simp only [ih]

end Go.Proofs.Ytifcjlehbmbacaa.Pure
