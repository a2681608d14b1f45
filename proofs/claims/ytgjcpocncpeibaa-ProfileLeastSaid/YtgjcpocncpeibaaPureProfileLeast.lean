/- No ride with allowed speeds is shorter than the program's: for all numbers. -/
import Derived.Test.YtgjcpocncpeibaaS5
import Derived.Test.YtgjcpocncpeibaaVals
namespace Go.Proofs.Ytgjcpocncpeibaa.Pure
open Go.RowKit Go.Proofs.Ytgjcpocncpeibaa.S Go.Proofs.YtgjcpocncpeibaaW.PrintWords Go.Proofs.YtgjcpocncpeibaaW.PrintLast
set_option linter.unusedVariables false
set_option linter.unusedSimpArgs false

theorem least_loop (n L T : Nat) (hT : T ≤ 500) (hT1 : 1 ≤ T) (hS : S L 0 (T - 1) < n) (hL : L ≤ 20) : ∀ (d k i f : Nat), i + d = T → 1 ≤ i → f + S L (i - 1) (T - i) = S L 0 (T - 1) → f ≤ 20 * i → d + 100 < k →
    tipstafflaw08_ProfileLeast.l0 k (n : Int) (L : Int) (T : Int) (f : Int) (i : Int) = some true := by
  intro d
  induction d with
  | zero =>
    intro k i f hi h1 hf hb hk
    obtain ⟨k, rfl, hk'⟩ := succ_of hk
    rw [tipstafflaw08_ProfileLeast.l0, wrap_id ((T : Int) - 1) (by omega) (by omega), if_neg (by omega)]
    have : T - i = 0 := by omega
    rw [this] at hf
    simp only [S] at hf
    rw [if_pos (by omega), awake_val _ (by omega)]; rfl
  | succ d ih =>
    intro k i f hi h1 hf hb hk
    obtain ⟨k, rfl, hk'⟩ := succ_of hk
    rw [tipstafflaw08_ProfileLeast.l0, wrap_id ((T : Int) - 1) (by omega) (by omega), if_pos (by omega), wrap_id ((T : Int) - (i : Int)) (by omega) (by omega)]
    have e : mn (mn (i : Int) ((T : Int) - (i : Int))) (L : Int) = ((min (min i (T - i)) L : Nat) : Int) := by unfold mn; (repeat' split) <;> omega
    rw [e, wrap_id ((f : Int) + _) (by omega) (by omega), wrap_succ i (by omega)]
    have e2 : S L (i - 1) (T - i) = min (min i (T - i)) L + S L i (T - (i + 1)) := by
      obtain ⟨m, hm⟩ : ∃ m, T - i = m + 1 := ⟨T - i - 1, by omega⟩
      rw [hm, S, show i - 1 + 1 = i by omega, show T - (i + 1) = m by omega]
    have := ih k (i + 1) (f + min (min i (T - i)) L) (by omega) (by omega) (by rw [show i + 1 - 1 = i by omega]; omega) (by omega) (by omega)
    rw [show ((f : Int) + ((min (min i (T - i)) L : Nat) : Int)) = ((f + min (min i (T - i)) L : Nat) : Int) by omega]
    exact this

theorem ProfileLeast : tipstafflaw08_ProfileLeast.Pure := by
  intro a0 a1 w0 w1
  obtain ⟨x, hx, hx'⟩ := mod_nat a0 400 (by omega)
  obtain ⟨y, hy, hy'⟩ := mod_nat a1 20 (by omega)
  obtain ⟨K, hK⟩ : ∃ K : Nat, K = 1000 := ⟨_, rfl⟩
  refine ⟨K + 1, ?_⟩
  unfold tipstafflaw08_ProfileLeast.f
  rw [mod_val a0 400 (i64_of w0) (by omega) (by omega), show a0 % 400 = (x : Int) from hx]
  rw [Option.bind_some]
  rw [mod_val a1 20 (i64_of w1) (by omega) (by omega), show a1 % 20 = (y : Int) from hy]
  rw [Option.bind_some]
  rw [wrap_id (1 + (x : Int)) (by omega) (by omega), wrap_id (1 + (y : Int)) (by omega) (by omega)]
  rw [show (1 + (x : Int)) = ((1 + x : Nat) : Int) by omega, show (1 + (y : Int)) = ((1 + y : Nat) : Int) by omega]
  rw [trav (1 + x) (1 + y) _ (by omega) (by omega) (by omega) (by omega)]
  simp only [Option.bind_some, if_true]
  obtain ⟨h1, _, h3, h4⟩ := rideX_spec (1 + x) (1 + y) (by omega) (by omega) (by omega)
  generalize hT : (rideX (1 + x) (1 + y)).length = T at *
  have hT1 : 1 ≤ T := by
    rcases Nat.eq_zero_or_pos T with h | h
    · have := (h3 0).1 (by omega)
      simp [D] at this
    · exact h
  rw [if_neg (by omega), decide_eq_false (by omega), tipstafflaw08_ProfileLeast.j0, if_neg (by decide)]
  have hD : D (1 + y) 0 (T - 1) < 1 + x := by
    have := h3 (T - 1)
    omega
  have hSD := S_le_D (1 + y) (T - 1) 0 0 (by omega)
  have := least_loop (1 + x) (1 + y) T (by omega) hT1 (by omega) (by omega) (T - 1) K 1 0 (by omega) (by omega) (by simp) (by omega) (by omega)
  have e0 : ((0 : Nat) : Int) = 0 := rfl
  have e1 : ((1 : Nat) : Int) = 1 := rfl
  rw [e0, e1] at this
  exact this

end Go.Proofs.Ytgjcpocncpeibaa.Pure
