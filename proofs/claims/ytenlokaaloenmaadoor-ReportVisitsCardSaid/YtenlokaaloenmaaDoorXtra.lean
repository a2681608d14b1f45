/- Small laws of memory for the printed walks: a store takes no cell away. -/
import Derived.Test.YtenlokaaloenmaaDoorWMore
import Derived.Test.YtenlokaaloenmaaDoorWNEv
namespace Go.Proofs.YtenlokaaloenmaaDoorW.PrintXtra
open Go.RowKit
set_option linter.unusedVariables false
set_option linter.unusedSimpArgs false

theorem isSome_setCell (w : World) (a b : Addr) (v : Value) : ((w.setCell a v).cell? b).isSome = (w.cell? b).isSome := by
  by_cases h : a = b
  · subst h
    cases hc : w.cell? a with
    | some u => rw [World.cell?_setCell_same w a v hc]; rfl
    | none =>
      simp only [World.setCell, World.cell?, Array.getElem?_modify, ↓reduceIte] at hc ⊢
      cases hh : w.heap[a.block]? with
      | none => simp
      | some x =>
        rw [hh] at hc
        cases x <;> simp at hc ⊢
        intro h1; have h2 := hc h1; simp [h1]; exact h2
  · rw [World.cell?_setCell_other _ _ _ _ h]

end Go.Proofs.YtenlokaaloenmaaDoorW.PrintXtra
