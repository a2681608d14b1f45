/- What a world in which the table of math/bits is laid gives a walk; math/bits.TrailingZeros64, walked. -/
import Derived.Shelf.Spec.TrailingZeros
import Derived.Test.YtenlokaaloenmaaDoorHview
namespace Go.Proofs.YtenlokaaloenmaaDoor.S
open Go.RowKit Go.Proofs.YtenlokaaloenmaaDoorW.PrintWords Go.Proofs.YtenlokaaloenmaaDoorW.PrintLast Go.Proofs.YtenlokaaloenmaaDoorW.PrintMore
set_option linter.unusedVariables false
set_option linter.unusedSimpArgs false

structure LaidAt (w : World) : Prop where mk :: (out : ∀ j, j < Lib.deBruijn64tab.length → w.cell? ⟨0, j, none⟩ = some (.int .u8 (Lib.deBruijn64tab.getD j 0)))
theorem LaidAt.below {w W : World} (h : LaidAt w) (hb : Below w.heap.size w W) : LaidAt W :=
  ⟨fun i hi => (hb.cell (p := ⟨0, i, none⟩) (World.block_lt_of_cell? w _ (h.out i hi))).trans (h.out i hi)⟩
theorem LaidAt.drewN {w : World} (h : LaidAt w) (n : Nat) : LaidAt (w.drewN n) := ⟨h.out⟩
theorem LaidAt.drawn {w W : World} (h : LaidAt w) (hd : Drawn0 w W) : LaidAt W := h.below hd.below

set_option maxHeartbeats 1000000 in
theorem tz_core (x k idx : Nat) (w : World) (hx0 : ((x : Int) == 0) = false)
    (key : IntKind.u64.wrap (Go.bits BinOp.and IntKind.u64 (x : Int) (IntKind.u64.wrap (-(x : Int))) * 285870213051353865) / 288230376151711744 = (idx : Int))
    (hi : idx < 64) (hk : k < 64) (hcell : w.cell? ⟨0, idx, none⟩ = some (.int .u8 k)) :
    Calls Tryd.prog 50 #[.int .u64 x] w fun e w' => e = .returned (.int .i64 k) ∧ w' = w := by
  have hu91 := Tryd.underlying91
  go_enter Tryd.func50, Tryd.ntmps50
  go_wp2_with (simp only [key])
  go_ret
  exact ⟨rfl, rfl⟩

/-- The number of the lowest light of a set that is not empty. -/
theorem tz_any (x : Nat) (hx0 : x ≠ 0) (hx : x < 18446744073709551616) (w : World) (hT : LaidAt w) :
    Calls Tryd.prog 50 #[.int .u64 x] w fun e w' => e = .returned (.int .i64 (Lib.ctz 64 x)) ∧ w' = w := by
  obtain ⟨hlow, hk⟩ := Lib.lowest_bit 64 x hx0 hx
  obtain ⟨hi, htab⟩ := Lib.deBruijn64_at _ hk
  have hcell := hT.out _ hi
  rw [htab] at hcell
  have key := tz64_key x _ hx hx0 hlow
  exact tz_core x (Lib.ctz 64 x) _ w (by simpa using hx0) key (by exact hi) hk hcell

end Go.Proofs.YtenlokaaloenmaaDoor.S
