/- What a world in which the table of halves is laid gives a walk: its sixteen cells; it is abided by whatever makes memory alone. -/
import Derived.Test.YtghcckbdfmpgjaaDoorS0
namespace Go.Proofs.YtghcckbdfmpgjaaDoor.S
open Go.RowKit Go.Proofs.YtghcckbdfmpgjaaDoorW.PrintWords Go.Proofs.YtghcckbdfmpgjaaDoorW.PrintLast Go.Proofs.YtghcckbdfmpgjaaDoorW.PrintMore
set_option linter.unusedVariables false
set_option linter.unusedSimpArgs false

def halvesL : List Int := [0, 7, 14, 9, 28, 27, 18, 21, 56, 63, 54, 49, 36, 35, 42, 45]
structure LaidAt (w : World) : Prop where mk :: (out : ∀ i : Nat, i < 16 → w.cell? ⟨0, i, none⟩ = some (.int .u8 (halvesL.getD i 0)))
theorem LaidAt.below {w W : World} (h : LaidAt w) (hb : Below w.heap.size w W) : LaidAt W :=
  ⟨fun i hi => (hb.cell (p := ⟨0, i, none⟩) (World.block_lt_of_cell? w _ (h.out i hi))).trans (h.out i hi)⟩
theorem LaidAt.drewN {w : World} (h : LaidAt w) (n : Nat) : LaidAt (w.drewN n) := ⟨h.out⟩
theorem LaidAt.drawn {w W : World} (h : LaidAt w) (hd : Drawn0 w W) : LaidAt W := h.below hd.below

end Go.Proofs.YtghcckbdfmpgjaaDoor.S
