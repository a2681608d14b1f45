/- What the statements' Mod comes to. The motions made of numbers. -/
import Derived.Test.YtocbjclflabmcaaS16
import Derived.Test.YtocbjclflabmcaaNums
import Derived.Test.YtocbjclflabmcaaMo
import Derived.Test.YtocbjclflabmcaaS16
set_option linter.unusedVariables false
set_option linter.unusedSimpArgs false
namespace Go.Proofs.Ytocbjclflabmcaa.Pure
open Go.RowKit Go.Proofs.Ytocbjclflabmcaa.S Go.Proofs.YtocbjclflabmcaaW.PrintWords Go.Proofs.YtocbjclflabmcaaW.PrintLast
set_option linter.unusedVariables false
set_option linter.unusedSimpArgs false

theorem mod_val (a b : Int) (ha : I64 a) (hb : 1 ≤ b) (hb' : b ≤ 4611686018427387904) : tipstaffkit_Mod.f a b = some (a % b) := by
  unfold tipstaffkit_Mod.f
  rw [if_neg (by omega), if_neg (by omega)]
  have h1 : a.tmod b = a % b ∨ a.tmod b = a % b - b := by
    rw [Int.tmod_eq_emod]; split <;> omega
  have h2 := Int.emod_nonneg a (show b ≠ 0 by omega)
  have h3 := Int.emod_lt_of_pos a (show 0 < b by omega)
  unfold I64 at ha
  split
  · rename_i h4
    rw [wrap_id _ (by omega) (by omega)]
    congr 1; omega
  · rename_i h4
    congr 1; omega

end Go.Proofs.Ytocbjclflabmcaa.Pure

namespace Go.Proofs.Ytocbjclflabmcaa.Pure
open Go.RowKit Go.Proofs.Ytocbjclflabmcaa.S Go.Proofs.YtocbjclflabmcaaW.PrintWords Go.Proofs.YtocbjclflabmcaaW.PrintLast

theorem far_val (a b : Int) (h0 : 0 ≤ a) (h1 : a ≤ 63000) (h2 : 0 ≤ b) (h3 : b ≤ 63000) : tipstafflaw09_far.f a b = some (dist a b) := by
  unfold tipstafflaw09_far.f mx dist
  rw [wrap_id _ (by omega) (by omega), wrap_id _ (by omega) (by omega)]
  congr 1
  (repeat' split) <;> omega

theorem run_between : ∀ (n : Nat) {p g s m : Int}, Ok p g s m → (p ≤ (S.runN n p g s m).1 ∨ g ≤ (S.runN n p g s m).1) ∧ ((S.runN n p g s m).1 ≤ p ∨ (S.runN n p g s m).1 ≤ g)
  | 0, p, g, s, m, h => ⟨.inl (Int.le_refl _), .inl (Int.le_refl _)⟩
  | n + 1, p, g, s, m, h => by
    by_cases hne : p = g
    · rw [runN_still _ h hne]; exact ⟨.inl (Int.le_refl _), .inl (Int.le_refl _)⟩
    · obtain ⟨p', s', v, t⟩ := tick_main h hne
      rw [runN_step _ h hne t]
      have ih := run_between n t.ok
      have hp := t.hp
      have hd := t.hd
      have v1 := t.v1
      rcases way_cases p g with ⟨e0, e⟩ | ⟨e0, e⟩ <;> rw [e] at hp <;> unfold dist at hd <;> (repeat' split at hd) <;> omega

/-- The motion made of numbers. -/
theorem made_val (a0 a1 a2 a3 : Int) (h0 : I64 a0) (h1 : I64 a1) (h2 : I64 a2) (h3 : I64 a3) :
    Ok (a0 % 300) (a1 % 300) 0 (1 + a2 % 20) ∧ tipstafflaw09_made.f a0 a1 a2 a3 = some ((S.runN (a3 % 60).toNat (a0 % 300) (a1 % 300) 0 (1 + a2 % 20)).1, a1 % 300, (S.runN (a3 % 60).toNat (a0 % 300) (a1 % 300) 0 (1 + a2 % 20)).2, 1 + a2 % 20, true) := by
  have ho : Ok (a0 % 300) (a1 % 300) 0 (1 + a2 % 20) := ⟨by omega, by omega, by omega, by omega, by omega, by omega, by omega, by omega, fun h => absurd h (by omega)⟩
  refine ⟨ho, ?_⟩
  unfold tipstafflaw09_made.f
  rw [mod_val a0 300 h0 (by decide) (by decide), Option.bind_some, mod_val a1 300 h1 (by decide) (by decide), Option.bind_some, mod_val a2 20 h2 (by decide) (by decide), Option.bind_some, wrap_id _ (by omega) (by omega), start_val, Option.bind_some]
  unfold stt
  rw [if_pos (show 0 ≤ a0 % 300 ∧ a0 % 300 ≤ 63000 ∧ 0 ≤ a1 % 300 ∧ a1 % 300 ≤ 63000 ∧ 1 ≤ 1 + a2 % 20 ∧ 1 + a2 % 20 ≤ 20 by omega)]
  rw [mod_val a3 60 h3 (by decide) (by decide), Option.bind_some]
  simp only
  rw [run_val ho _ (by omega) (by omega), Option.bind_some]
  have hb := run_between (a3 % 60).toNat ho
  simp only [if_true]
  rw [if_pos (by omega), if_pos (by omega), if_pos (by omega), decide_eq_true (show a1 % 300 < 300 by omega)]

end Go.Proofs.Ytocbjclflabmcaa.Pure
