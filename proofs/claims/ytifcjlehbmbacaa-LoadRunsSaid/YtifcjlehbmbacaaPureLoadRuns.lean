/- The held bands of a history and where they change are as the reference says, for all limits and all lists that the statement speaks of. -/
import Derived.Test.YtifcjlehbmbacaaAskLoadRuns
import Derived.Test.YtifcjlehbmbacaaRuns
import Derived.Test.YtifcjlehbmbacaaOwn
namespace Go.Proofs.Ytifcjlehbmbacaa.Pure
open Go.RowKit Go.Proofs.Ytifcjlehbmbacaa.S Go.Proofs.YtifcjlehbmbacaaW.PrintWords Go.Proofs.YtifcjlehbmbacaaW.PrintLast
set_option linter.unusedVariables false
set_option linter.unusedSimpArgs false

theorem changes_loop_some (b : List Int) (hb : b.length ≤ 2000) : ∀ (d k i : Nat) (acc : List Int), i + d = b.length + 1 → 1 ≤ i → acc.length ≤ i → d < k →
    ∃ r, load_Changes.l0 k b acc (i : Int) = some (r, 0) ∧ r.length ≤ b.length + 1 := by
  intro d
  induction d with
  | zero =>
    intro k i acc hi h1 ha hk
    obtain ⟨k, rfl, hk⟩ := succ_of hk
    unfold load_Changes.l0
    rw [if_neg (by omega)]
    exact ⟨_, rfl, by omega⟩
  | succ d ih =>
    intro k i acc hi h1 ha hk
    obtain ⟨k, rfl, hk⟩ := succ_of hk
    unfold load_Changes.l0
    by_cases hlt : (i : Int) < b.length
    · have e1 : wrap64 ((i : Int) - 1) = (i : Int) - 1 := wrap_id _ (by omega) (by omega)
      rw [if_pos hlt, if_pos (by omega), e1, if_pos (by omega), if_pos (by omega), wrap_succ i (by omega)]
      split
      · exact ih k (i + 1) acc (by omega) (by omega) (by omega) (by omega)
      · rw [if_pos (by omega)]
        exact ih k (i + 1) _ (by omega) (by omega) (by simp; omega) (by omega)
    · rw [if_neg hlt]
      exact ⟨_, rfl, by omega⟩

theorem changes_val (e f s : Int) (l : List Int) (hf : I64 f) (hs : I64 s) {k : Nat} (hk : 6100 ≤ k) :
    ∃ p, load_Changes.f k e f s l = some p ∧ tipstaffref11_Changes.f k e f s l = some p ∧ p.1.length ≤ 2001 := by
  unfold load_Changes.f tipstaffref11_Changes.f
  rw [run_val e f s l (by omega), ref_run_val e f s hf hs l (by omega)]
  simp only [Option.bind_some, if_true, if_false]
  by_cases h : (runV e f s l).2 = 0
  · rw [if_pos h, if_pos h, ← changes_same_loop]
    have hlen : (runV e f s l).1.length ≤ 2000 := by
      unfold runV
      split
      · split
        · simp
        · split
          · simp [runL_length]; omega
          · simp
      · simp
    obtain ⟨r, hr, hrl⟩ := changes_loop_some (runV e f s l).1 hlen (runV e f s l).1.length k 1 [] (by omega) (by omega) (by simp) (by omega)
    exact ⟨(r, 0), hr, hr, by show r.length ≤ 2001; omega⟩
  · rw [if_neg h, if_neg h]
    exact ⟨_, rfl, rfl, by simp⟩

theorem LoadRuns : LoadRuns.Stmt := by
  intro e f s l w0 w1 w2 hl hz
  obtain ⟨K, hK⟩ : ∃ K : Nat, K = 6100 := ⟨_, rfl⟩
  refine ⟨K + 1, ?_⟩
  have hf := i64_of w1
  have hs := i64_of w2
  obtain ⟨p, h1, h2, h3⟩ := changes_val e f s l hf hs (show 6100 ≤ K by omega)
  have h4 : (runV e f s l).1.length ≤ 2000 := by
    unfold runV
    split
    · split
      · simp
      · split
        · simp [runL_length]; omega
        · simp
    · simp
  have hj : ∀ b, (b = false → l.length ≤ 2010) → tipstafflaw11_LoadRuns.j0 (K + 1) l b e f s = some true := by
    intro b hb
    rw [tipstafflaw11_LoadRuns.j0]
    split
    · rw [awake_val _ (by omega)]; rfl
    · rename_i h
      have hl2 := hb (by simpa using h)
      rw [own_val l (by omega)]; simp only [Option.bind_some, if_true, if_false]
      rw [run_val e f s l (by omega), ref_run_val e f s hf hs l (by omega), h1, h2]
      simp only [Option.bind_some, if_true, if_false]
      rw [same_self _ (by omega) (by omega)]; simp only [Option.bind_some, if_true, if_false]
      rw [same_self _ (by omega) (by omega)]; simp only [Option.bind_some, if_true, if_false]
      rw [same_self _ (by omega) (by omega)]; simp only [Option.bind_some, if_true, if_false]
      rw [awake_val _ (by omega)]; rfl
  unfold tipstafflaw11_LoadRuns.f
  split
  · split
    · exact hj _ (by simp)
    · exact hj _ (by intro h; simp at h; omega)
  · exact hj _ (by intro h; simp at h; omega)

end Go.Proofs.Ytifcjlehbmbacaa.Pure
