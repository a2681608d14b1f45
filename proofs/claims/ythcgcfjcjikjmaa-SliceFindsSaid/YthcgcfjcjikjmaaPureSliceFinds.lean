/- Which cars belong to a domain, in which slots, when next, how long at most: the program's answers are the specification's. -/
import Derived.Test.YthcgcfjcjikjmaaAskSliceFinds
import Derived.Test.YthcgcfjcjikjmaaRota4
namespace Go.Proofs.Ythcgcfjcjikjmaa.Pure
open Go.RowKit Go.Proofs.Ythcgcfjcjikjmaa.S Go.Proofs.YthcgcfjcjikjmaaW.PrintWords Go.Proofs.YthcgcfjcjikjmaaW.PrintLast
set_option linter.unusedVariables false
set_option linter.unusedSimpArgs false

theorem carsF_len (R : List (List Int)) (s d : Int) (hR : small R) : (carsF R s d).1.length ≤ 40 := by
  unfold carsF
  split
  · have := pickL_len (fun i => at_ R s i == d) 1 R.length 0
    have := hR.1
    show (pickL _ _ _ _).length ≤ 40
    omega
  · simp

theorem slotsF_len (R : List (List Int)) (c d : Int) : (slotsF R c d).1.length ≤ 40 := by
  unfold slotsF
  by_cases h : askF R (okC R c && okD d) = 0
  · rw [if_pos h]
    have := slotsL_len R c d
    have := (askF_ok h).1.2.2.2.1
    show (slotsL R c d).length ≤ 40
    omega
  · rw [if_neg h]; simp

theorem SliceFinds : SliceFinds.Stmt := by
  intro R l c t d _ _ _ _ _
  obtain ⟨b, ⟨Kb, hb⟩, hs⟩ := large_val R
  obtain ⟨Ka, ha⟩ := awake_val
  dsimp only at hb ha
  cases b with
  | true =>
    refine ⟨Kb + Ka, ?_⟩
    rw [tipstafflaw25_SliceFinds.f, hb _ (by omega), Option.bind_some, if_pos rfl, ha _ (by omega)]; rfl
  | false =>
    have hS := hs rfl
    obtain ⟨K1, h1⟩ := own_rota R hS
    obtain ⟨K2, h2⟩ := cars_val R t d
    obtain ⟨K3, h3⟩ := cars_ref R t d
    obtain ⟨K4, h4⟩ := slots_val R c d
    obtain ⟨K5, h5⟩ := slots_ref R c d
    obtain ⟨K6, h6⟩ := next_val R l c d t
    obtain ⟨K7, h7⟩ := next_ref R l c d t
    obtain ⟨K8, h8⟩ := wait_val R c d
    obtain ⟨K9, h9⟩ := wait_ref R c d
    obtain ⟨KA, hA⟩ := same_rota R hS
    dsimp only at h1 h2 h3 h4 h5 h6 h7 h8 h9 hA
    obtain ⟨K, hK⟩ : ∃ K, K = Kb + Ka + K1 + K2 + K3 + K4 + K5 + K6 + K7 + K8 + K9 + KA + 50 := ⟨_, rfl⟩
    have hl1 := carsF_len R t d hS
    have hl2 := slotsF_len R c d
    refine ⟨K + 1 + 1, ?_⟩
    rw [tipstafflaw25_SliceFinds.f, hb _ (by omega), Option.bind_some, if_neg (by decide), h1 _ (by omega), Option.bind_some, h2 _ (by omega), Option.bind_some, h3 _ (by omega), Option.bind_some, same_self _ (by omega) (by omega), Option.bind_some, if_pos rfl, bne_self_eq_false]
    rw [tipstafflaw25_SliceFinds.j0, if_neg (by decide), h4 _ (by omega), Option.bind_some, h5 _ (by omega), Option.bind_some, same_self _ (by omega) (by omega), Option.bind_some, if_pos rfl, bne_self_eq_false]
    rw [tipstafflaw25_SliceFinds.j1, if_neg (by decide), h6 _ (by omega), Option.bind_some, h7 _ (by omega), Option.bind_some, h8 _ (by omega), Option.bind_some, h9 _ (by omega), Option.bind_some, if_pos rfl, if_pos rfl, if_pos rfl, if_pos rfl, hA _ (by omega), Option.bind_some, if_pos rfl, ha _ (by omega)]; rfl

end Go.Proofs.Ythcgcfjcjikjmaa.Pure
