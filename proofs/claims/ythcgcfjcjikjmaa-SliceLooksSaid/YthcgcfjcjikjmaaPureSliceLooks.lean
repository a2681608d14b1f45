/- Which rotas are valid, where a tick lies, to which domain a car belongs, how slots are shared: the program's answers are the specification's. -/
import Derived.Test.YthcgcfjcjikjmaaAskSliceLooks
import Derived.Test.YthcgcfjcjikjmaaRota4
namespace Go.Proofs.Ythcgcfjcjikjmaa.Pure
open Go.RowKit Go.Proofs.Ythcgcfjcjikjmaa.S Go.Proofs.YthcgcfjcjikjmaaW.PrintWords Go.Proofs.YthcgcfjcjikjmaaW.PrintLast
set_option linter.unusedVariables false
set_option linter.unusedSimpArgs false

theorem shareF_len (R : List (List Int)) : (shareF R).1.length ≤ 4 := by
  unfold shareF
  by_cases h0 : (checkF R).1 = 0
  · obtain ⟨r, s1, s2, _⟩ := share_loop R (okR_of R h0) _ 0 (Nat.zero_add _) [0, 0, 0, 0] rfl
    have s1' : shareL R [0, 0, 0, 0] = some r := s1
    rw [if_pos h0, s1']; show r.length ≤ 4; omega
  · rw [if_neg h0]; simp

theorem SliceLooks : SliceLooks.Stmt := by
  intro R l c t _ _ _ _
  obtain ⟨b, ⟨Kb, hb⟩, hs⟩ := large_val R
  obtain ⟨Ka, ha⟩ := awake_val
  dsimp only at hb ha
  cases b with
  | true =>
    refine ⟨Kb + Ka, ?_⟩
    rw [tipstafflaw25_SliceLooks.f, hb _ (by omega), Option.bind_some, if_pos rfl, ha _ (by omega)]; rfl
  | false =>
    have hS := hs rfl
    obtain ⟨K1, h1⟩ := own_rota R hS
    obtain ⟨K2, h2⟩ := chk_val R
    obtain ⟨K3, h3⟩ := rchk_val R
    obtain ⟨K4, h4⟩ := domain_val R l c t
    obtain ⟨K5, h5⟩ := domain_ref R l c t
    obtain ⟨K6, h6⟩ := share_val R
    obtain ⟨K7, h7⟩ := share_ref R
    obtain ⟨K8, h8⟩ := same_rota R hS
    dsimp only at h1 h2 h3 h4 h5 h6 h7 h8
    obtain ⟨K, hK⟩ : ∃ K, K = Kb + Ka + K1 + K2 + K3 + K4 + K5 + K6 + K7 + K8 + 10 := ⟨_, rfl⟩
    have hlen := shareF_len R
    refine ⟨K + 1 + 1, ?_⟩
    rw [tipstafflaw25_SliceLooks.f, hb _ (by omega), Option.bind_some, if_neg (by decide), h1 _ (by omega), Option.bind_some, h2 _ (by omega), Option.bind_some, h3 _ (by omega), Option.bind_some, if_pos rfl, bne_self_eq_false]
    rw [tipstafflaw25_SliceLooks.j0, if_neg (by decide), slot_val, Option.bind_some, slot_ref, Option.bind_some, if_pos rfl, if_pos rfl, bne_self_eq_false]
    rw [tipstafflaw25_SliceLooks.j1, if_neg (by decide), h4 _ (by omega), Option.bind_some, h5 _ (by omega), Option.bind_some, h6 _ (by omega), Option.bind_some, h7 _ (by omega), Option.bind_some, if_pos rfl, if_pos rfl, same_self _ (by omega) (by omega), Option.bind_some, if_pos rfl, if_pos rfl, h8 _ (by omega), Option.bind_some, if_pos rfl, ha _ (by omega)]; rfl

end Go.Proofs.Ythcgcfjcjikjmaa.Pure
