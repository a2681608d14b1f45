/- Plain facts on lists of loads: their errors and their held bands. -/
import Derived.Test.YtifcjlehbmbacaaS7
import Derived.Test.YtifcjlehbmbacaaS8
import Derived.Test.YtifcjlehbmbacaaBase
namespace Go.Proofs.Ytifcjlehbmbacaa.Pure
open Go.RowKit Go.Proofs.Ytifcjlehbmbacaa.S Go.Proofs.YtifcjlehbmbacaaW.PrintWords Go.Proofs.YtifcjlehbmbacaaW.PrintLast
set_option linter.unusedVariables false
set_option linter.unusedSimpArgs false

def loadsV (l : List Int) : Int := if l.all isL = true then 0 else 2
theorem loads_loop (l : List Int) (hl : l.length ≤ 2000) : ∀ (d k i : Nat), i + d = l.length → d < k → load_loads.l0 k l (l.length : Int) (i : Int) = some (loadsV (l.drop i)) := by
  intro d
  induction d with
  | zero =>
    intro k i hi hk
    obtain ⟨k, rfl, hk⟩ := succ_of hk
    unfold load_loads.l0
    rw [if_neg (by omega), List.drop_eq_nil_of_le (by omega)]; rfl
  | succ d ih =>
    intro k i hi hk
    obtain ⟨k, rfl, hk⟩ := succ_of hk
    unfold load_loads.l0
    rw [if_pos (by omega), if_pos (by omega), if_pos (by omega), is_val, drop_rd l i (by omega)]
    simp only [Option.bind_some]
    by_cases hx : isL (rd l (i : Int)) = true
    · rw [if_pos hx, wrap_succ i (by omega), ih k (i + 1) (by omega) (by omega)]
      unfold loadsV; simp [hx]
    · rw [if_neg hx]; unfold loadsV; simp [hx]

theorem loads_val (l : List Int) (hl : l.length ≤ 2000) {k : Nat} (hk : 2000 < k) : load_loads.f k l = some (loadsV l) := by
  unfold load_loads.f
  rw [if_neg (by omega)]
  exact loads_loop l hl l.length k 0 (by omega) (by omega)

theorem loads_long (l : List Int) (h : (l.length : Int) > 2000) {k : Nat} : load_loads.f k l = some 4 := by
  unfold load_loads.f; rw [if_pos h]

end Go.Proofs.Ytifcjlehbmbacaa.Pure
