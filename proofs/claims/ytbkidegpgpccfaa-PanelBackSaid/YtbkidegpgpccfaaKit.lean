/- What the statements' common functions come to. -/
import Derived.Test.YtbkidegpgpccfaaS11
import Derived.Test.YtbkidegpgpccfaaS3
import Derived.Test.YtbkidegpgpccfaaNums
namespace Go.Proofs.Ytbkidegpgpccfaa.Pure
open Go.RowKit Go.Proofs.Ytbkidegpgpccfaa.S Go.Proofs.YtbkidegpgpccfaaW.PrintWords Go.Proofs.YtbkidegpgpccfaaW.PrintLast
set_option linter.unusedVariables false
set_option linter.unusedSimpArgs false

theorem mod_val (a b : Int) (ha : I64 a) (hb : 1 ≤ b) (hb' : b ≤ 4611686018427387904) : tipstaffkit_Mod.f a b = some (a % b) := by
  unfold tipstaffkit_Mod.f
  rw [if_neg (by omega), if_neg (by omega)]
  have h1 : a.tmod b = a % b ∨ a.tmod b = a % b - b := by
    rw [Int.tmod_eq_emod]; split <;> omega
  have h2 := Int.emod_nonneg a (show b ≠ 0 by omega)
  have h3 := Int.emod_lt_of_pos a (show 0 < b by omega)
  unfold I64 at ha
  split
  · rename_i h4
    rw [wrap_id _ (by omega) (by omega)]
    congr 1; omega
  · rename_i h4
    congr 1; omega

theorem same_loop (a b : List Int) (hl : a.length = b.length) (hm : a.length ≤ 9223372036854775807) : ∀ (d k i : Nat), i + d = a.length → d < k →
    tipstaffkit_SameInts.l0 k a b (i : Int) = some (decide (a.drop i = b.drop i)) := by
  intro d
  induction d with
  | zero =>
    intro k i hi hk
    obtain ⟨k, rfl, hk⟩ := succ_of hk
    unfold tipstaffkit_SameInts.l0
    rw [if_neg (by omega), List.drop_eq_nil_of_le (by omega), List.drop_eq_nil_of_le (by omega)]; rfl
  | succ d ih =>
    intro k i hi hk
    obtain ⟨k, rfl, hk⟩ := succ_of hk
    unfold tipstaffkit_SameInts.l0
    rw [if_pos (by omega), if_pos (by omega), if_pos (by omega), drop_rd a i (by omega), drop_rd b i (by omega)]
    by_cases hx : rd a (i : Int) = rd b (i : Int)
    · rw [if_pos hx, wrap_succ i (by omega), ih k (i + 1) (by omega) (by omega)]; simp [hx]
    · rw [if_neg hx]; simp [hx]

theorem same_val (a b : List Int) (hm : a.length ≤ 9223372036854775807) {k : Nat} (hk : a.length < k) : tipstaffkit_SameInts.f k a b = some (decide (a = b)) := by
  unfold tipstaffkit_SameInts.f
  by_cases h : a.length = b.length
  · rw [if_pos (by omega)]
    exact same_loop a b h hm a.length k 0 (by omega) hk
  · rw [if_neg (by omega)]
    congr 1
    exact (decide_eq_false (fun e => h (by rw [e]))).symm

theorem same_self (a : List Int) (hm : a.length ≤ 9223372036854775807) {k : Nat} (hk : a.length < k) : tipstaffkit_SameInts.f k a a = some true := by
  rw [same_val a a hm hk]; simp

end Go.Proofs.Ytbkidegpgpccfaa.Pure
