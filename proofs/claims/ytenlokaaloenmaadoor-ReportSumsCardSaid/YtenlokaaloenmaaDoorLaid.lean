/- From the condition that the table of math/bits is laid to what the walks ask; and the start that meets it. -/
import Derived.Test.YtenlokaaloenmaaDoorRows
import Derived.Test.YtenlokaaloenmaaDoorM6
import Derived.ProofKit
import Derived.LaidMore
import Derived.OpenShut
import Derived.Stop.Joined
namespace Go.Proofs.YtenlokaaloenmaaDoor.S
open Go.ChangeShapes Go.WideShapes Go.ChangeAt Go.RowKit

abbrev laidList : List (String × DataW Unit) := [("math/bits.deBruijn64tab", Rows.laid_math_bits_deBruijn64tab)]
theorem gTab : Tryd.prog.globalNamed "math/bits.deBruijn64tab" = some 0 := by kernel_rfl
theorem tTab : (Tryd.prog.globals[0]?).map (·.type) = some 91 := by kernel_rfl
/-- The door's own heap meets the condition. -/
theorem door_met (os : Os) (args : Array Value) : laidMetH Tryd.prog laidList ((World.doorLaid Tryd.prog 400 os).forCall (fun _ _ => 0) ⟨#[], args, []⟩).memory :=
  laidMetH_of_parts3 (fuel := 8) (laidMet_of_run' 8 (by kernel_rfl) (by kernel_rfl)) (by kernel_rfl) (by kernel_rfl)
theorem laid_of {W : World} (h : laidMetH Tryd.prog laidList W) : LaidAt W := by
  rw [MakeChecks.laidMetH_plain _ _ _ (by kernel_rfl)] at h
  obtain ⟨ps, ⟨g0, t0, cs0, f0, p0, q0, hg0, ht0, hv0, hd0, _, _⟩, _⟩ := h
  obtain rfl := Option.some.inj (gTab.symm.trans hg0)
  obtain rfl := Option.some.inj (tTab.symm.trans ht0)
  obtain ⟨xs, m1, rfl, hx1, hlen, hn, hel⟩ := DataW.trod_array Tryd.underlying91 hd0
  have c5 : Tryd.prog.cellsOf 5 = 1 := by kernel_rfl
  rw [c5] at hel
  have hmap : xs.map (·.1) = Lib.deBruijn64tab.map (fun n : Nat => (DataW.lit (.int .u8 (n : Int)) : DataW Unit)) := by
    have := (Prod.mk.inj hx1).1
    simp only [Rows.laid_math_bits_deBruijn64tab, DataW.agg.injEq] at this
    rw [← this]; rfl
  refine ⟨fun i hi => ?_⟩
  have h64 : Lib.deBruijn64tab.length = 64 := rfl
  have hi2 := hel i (by omega)
  obtain ⟨x, hx⟩ : ∃ x, xs[i]? = some x := ⟨_, List.getElem?_eq_getElem (by omega)⟩
  rw [hx] at hi2
  obtain ⟨n, e1, e2, _⟩ := DataW.trod_int Tryd.underlying5 hi2
  have e3 : some x.1 = some (DataW.lit (.int .u8 ((Lib.deBruijn64tab.getD i 0 : Nat) : Int)) : DataW Unit) := by
    have h1 : (xs.map (·.1))[i]? = some x.1 := by rw [List.getElem?_map, hx]; rfl
    rw [← h1, hmap, List.getElem?_map]
    have hl : i < Lib.deBruijn64tab.length := hi
    rw [List.getElem?_eq_getElem hl, List.getD_eq_getElem?_getD, List.getElem?_eq_getElem hl]; rfl
  rw [e2] at e3
  have e4 : n = ((Lib.deBruijn64tab.getD i 0 : Nat) : Int) := by simpa using e3
  have := World.var?_cell hg0 hv0 i
  rw [this]
  obtain ⟨l⟩ := cs0
  have e5 : l[i]? = some (.int .u8 n) := by
    have : ((l.drop (i * 1)).take 1)[0]? = some (.int .u8 n) := by rw [show (l.drop (i * 1)).take 1 = [.int .u8 n] from e1]; rfl
    rw [List.getElem?_take, if_pos (by decide), List.getElem?_drop] at this
    simpa using this
  rw [← e4]
  simpa using e5

end Go.Proofs.YtenlokaaloenmaaDoor.S
