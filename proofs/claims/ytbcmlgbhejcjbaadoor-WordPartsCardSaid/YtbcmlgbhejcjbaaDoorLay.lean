/- What a world in which the table of functions is laid gives a walk: its cells; it is abided by whatever makes memory alone. -/
import Derived.Test.YtbcmlgbhejcjbaaDoorS0
namespace Go.Proofs.YtbcmlgbhejcjbaaDoor.S
open Go.RowKit Go.Proofs.YtbcmlgbhejcjbaaDoorW.PrintWords Go.Proofs.YtbcmlgbhejcjbaaDoorW.PrintLast Go.Proofs.YtbcmlgbhejcjbaaDoorW.PrintMore
set_option linter.unusedVariables false
set_option linter.unusedSimpArgs false

/-- The number of the function that does what an entry says. -/
def doesN (i : Nat) : Nat := if i = 1 then 68 else if i = 2 then 69 else 70
structure LaidAt (w : World) : Prop where mk :: (out : ∀ i : Nat, 1 ≤ i → i ≤ 6 → w.cell? ⟨0, i, none⟩ = some (.func (.func (doesN i)) #[] #[]))
theorem LaidAt.below {w W : World} (h : LaidAt w) (hb : Below w.heap.size w W) : LaidAt W :=
  ⟨fun i h1 h6 => (hb.cell (p := ⟨0, i, none⟩) (World.block_lt_of_cell? w _ (h.out i h1 h6))).trans (h.out i h1 h6)⟩
theorem LaidAt.drewN {w : World} (h : LaidAt w) (n : Nat) : LaidAt (w.drewN n) := ⟨h.out⟩
theorem LaidAt.drawn {w W : World} (h : LaidAt w) (hd : Drawn0 w W) : LaidAt W := h.below hd.below

end Go.Proofs.YtbcmlgbhejcjbaaDoor.S
