/- What the statements' common functions come to. -/
import Derived.Test.YtocbjclflabmcaaS8
import Derived.Test.YtocbjclflabmcaaNums
namespace Go.Proofs.Ytocbjclflabmcaa.Pure
open Go.RowKit Go.Proofs.Ytocbjclflabmcaa.S Go.Proofs.YtocbjclflabmcaaW.PrintWords Go.Proofs.YtocbjclflabmcaaW.PrintLast
set_option linter.unusedVariables false
set_option linter.unusedSimpArgs false

theorem same_loop (a b : List Int) (hl : a.length = b.length) (hm : a.length ≤ 9223372036854775807) : ∀ (d k i : Nat), i + d = a.length → d < k →
    tipstaffkit_SameInts.l0 k a b (i : Int) = some (decide (a.drop i = b.drop i)) := by
  intro d
  induction d with
  | zero =>
    intro k i hi hk
    obtain ⟨k, rfl, hk⟩ := succ_of hk
    unfold tipstaffkit_SameInts.l0
    rw [if_neg (by omega), List.drop_eq_nil_of_le (by omega), List.drop_eq_nil_of_le (by omega)]; rfl
  | succ d ih =>
    intro k i hi hk
    obtain ⟨k, rfl, hk⟩ := succ_of hk
    unfold tipstaffkit_SameInts.l0
    rw [if_pos (by omega), if_pos (by omega), if_pos (by omega), drop_rd a i (by omega), drop_rd b i (by omega)]
    by_cases hx : rd a (i : Int) = rd b (i : Int)
    · rw [if_pos hx, wrap_succ i (by omega), ih k (i + 1) (by omega) (by omega)]; simp [hx]
    · rw [if_neg hx]; simp [hx]

theorem same_val (a b : List Int) (hm : a.length ≤ 9223372036854775807) {k : Nat} (hk : a.length < k) : tipstaffkit_SameInts.f k a b = some (decide (a = b)) := by
  unfold tipstaffkit_SameInts.f
  by_cases h : a.length = b.length
  · rw [if_pos (by omega)]
    exact same_loop a b h hm a.length k 0 (by omega) hk
  · rw [if_neg (by omega)]
    congr 1
    exact (decide_eq_false (fun e => h (by rw [e]))).symm

theorem same_self (a : List Int) (hm : a.length ≤ 9223372036854775807) {k : Nat} (hk : a.length < k) : tipstaffkit_SameInts.f k a a = some true := by
  rw [same_val a a hm hk]; simp

end Go.Proofs.Ytocbjclflabmcaa.Pure
