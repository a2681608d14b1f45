/- From the condition that the table of functions is laid to what the walks ask; and the start that meets it. -/
import Derived.Test.YtbcmlgbhejcjbaaDoorRows
import Derived.Test.YtbcmlgbhejcjbaaDoorLay
import Derived.ProofKit
import Derived.LaidMore
import Derived.OpenShut
import Derived.Stop.Joined
namespace Go.Proofs.YtbcmlgbhejcjbaaDoor.S
open Go.ChangeShapes Go.WideShapes Go.ChangeAt Go.RowKit

abbrev laidList : List (String × DataW Unit) := [("tipstaff/word.does", Rows.laid_tipstaff_word_does)]
theorem gDoes : Tryd.prog.globalNamed "tipstaff/word.does" = some 0 := by kernel_rfl
theorem tDoes : (Tryd.prog.globals[0]?).map (·.type) = some 75 := by kernel_rfl
/-- The door's own heap meets the condition. -/
theorem door_met (os : Os) (args : Array Value) : laidMetH Tryd.prog laidList ((World.doorLaid Tryd.prog 400 os).forCall (fun _ _ => 0) ⟨#[], args, []⟩).memory :=
  laidMetH_of_parts3 (fuel := 8) (laidMet_of_run' 8 (by kernel_rfl) (by kernel_rfl)) (by kernel_rfl) (by kernel_rfl)
theorem one1 : ((List.range Tryd.prog.funcs.size).filter fun f => (Tryd.prog.funcs[f]?).any (·.name.toUTF8.data.toList == ([116, 105, 112, 115, 116, 97, 102, 102, 47, 119, 111, 114, 100, 46, 100, 111, 101, 115, 36, 49] : List UInt8))) = [68] := by kernel_rfl
theorem one2 : ((List.range Tryd.prog.funcs.size).filter fun f => (Tryd.prog.funcs[f]?).any (·.name.toUTF8.data.toList == ([116, 105, 112, 115, 116, 97, 102, 102, 47, 119, 111, 114, 100, 46, 100, 111, 101, 115, 36, 50] : List UInt8))) = [69] := by kernel_rfl
theorem one3 : ((List.range Tryd.prog.funcs.size).filter fun f => (Tryd.prog.funcs[f]?).any (·.name.toUTF8.data.toList == ([116, 105, 112, 115, 116, 97, 102, 102, 47, 119, 111, 114, 100, 46, 102, 97, 117, 108, 116] : List UInt8))) = [70] := by kernel_rfl
/-- The names in the table. -/
def nameL (i : Nat) : List UInt8 := if i = 1 then [116, 105, 112, 115, 116, 97, 102, 102, 47, 119, 111, 114, 100, 46, 100, 111, 101, 115, 36, 49] else if i = 2 then [116, 105, 112, 115, 116, 97, 102, 102, 47, 119, 111, 114, 100, 46, 100, 111, 101, 115, 36, 50] else [116, 105, 112, 115, 116, 97, 102, 102, 47, 119, 111, 114, 100, 46, 102, 97, 117, 108, 116]
theorem laid_of {W : World} (h : laidMetH Tryd.prog laidList W) : LaidAt W := by
  obtain ⟨g0, t0, cs0, f0, p0, hg0, ht0, hv0, hd0⟩ := h.funcs (List.mem_singleton.2 rfl)
  obtain rfl := Option.some.inj (gDoes.symm.trans hg0)
  obtain rfl := Option.some.inj (tDoes.symm.trans ht0)
  obtain ⟨xs, m1, hx0, hx1, hlen, hn, hel⟩ := DataW.trod_array Tryd.underlying75 hd0
  have c5 : Tryd.prog.cellsOf 74 = 1 := by kernel_rfl
  rw [c5] at hel
  have hmap : xs.map (·.1) = (.nil : DataW (List UInt8)) :: [1, 2, 3, 4, 5, 6].map (fun i => DataW.held (nameL i)) := by
    have := (Prod.mk.inj hx1).1
    have e : (DataW.agg ((.nil : DataW (List UInt8)) :: [1, 2, 3, 4, 5, 6].map (fun i => DataW.held (nameL i)))) = DataW.agg (xs.map (·.1)) := by
      rw [← this]; rfl
    injection e with e
    exact e.symm
  refine ⟨fun i h1 h6 => ?_⟩
  have hi2 := hel i (by omega)
  obtain ⟨x, hx⟩ : ∃ x, xs[i]? = some x := ⟨_, List.getElem?_eq_getElem (by omega)⟩
  rw [hx] at hi2
  have e3 : x.1 = DataW.held (nameL i) := by
    have h1' : (xs.map (·.1))[i]? = some x.1 := by rw [List.getElem?_map, hx]; rfl
    rw [hmap] at h1'
    have hi : i = 1 ∨ i = 2 ∨ i = 3 ∨ i = 4 ∨ i = 5 ∨ i = 6 := by omega
    rcases hi with rfl | rfl | rfl | rfl | rfl | rfl <;> exact (Option.some.inj h1').symm
  have hlen1 : ∃ v, (cs0.toList.drop (i * 1)).take 1 = [v] := by
    have c7 : Tryd.prog.cellsOf 75 = 7 := by kernel_rfl
    have hl : ((cs0.toList.drop (i * 1)).take 1).length = 1 := by rw [List.length_take, List.length_drop, hlen, c7]; omega
    exact List.length_eq_one_iff.1 hl
  obtain ⟨v, hv⟩ := hlen1
  rw [hv] at hi2
  have hval : v = .func (.func (doesN i)) #[] #[] := by
    obtain ⟨x1, x2⟩ := x
    cases e3
    have hi : i = 1 ∨ i = 2 ∨ i = 3 ∨ i = 4 ∨ i = 5 ∨ i = 6 := by omega
    rcases hi with rfl | rfl | rfl | rfl | rfl | rfl
    · exact Go.func_of_trod Tryd.underlying74 one1 hi2
    · exact Go.func_of_trod Tryd.underlying74 one2 hi2
    · exact Go.func_of_trod Tryd.underlying74 one3 hi2
    · exact Go.func_of_trod Tryd.underlying74 one3 hi2
    · exact Go.func_of_trod Tryd.underlying74 one3 hi2
    · exact Go.func_of_trod Tryd.underlying74 one3 hi2
  have := World.var?_cell hg0 hv0 i
  rw [this]
  obtain ⟨l⟩ := cs0
  have e5 : l[i]? = some v := by
    have : ((l.drop (i * 1)).take 1)[0]? = some v := by rw [show (l.drop (i * 1)).take 1 = [v] from hv]; rfl
    rw [List.getElem?_take, if_pos (by decide), List.getElem?_drop] at this
    simpa using this
  rw [← hval]
  simpa using e5

end Go.Proofs.YtbcmlgbhejcjbaaDoor.S
