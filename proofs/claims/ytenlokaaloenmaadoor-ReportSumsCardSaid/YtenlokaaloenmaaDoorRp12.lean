/- The numbers of two parts of a run that is made, and of the whole. -/
import Derived.Test.YtenlokaaloenmaaDoorM7
import Derived.Test.YtenlokaaloenmaaDoorM8
import Derived.Test.YtenlokaaloenmaaDoorM9
set_option linter.unusedVariables false
namespace Go.Proofs.YtenlokaaloenmaaDoor.Pure
open Go.RowKit Go.Proofs.YtenlokaaloenmaaDoor.S Go.Proofs.YtenlokaaloenmaaDoorW.PrintWords Go.Proofs.YtenlokaaloenmaaDoorW.PrintLast Go.Proofs.YtenlokaaloenmaaDoorW.PrintMore
set_option linter.unusedVariables false
set_option linter.unusedSimpArgs false

theorem rd_take (l : List S41) (m j : Nat) (h : j < m) : rd_T41 (l.take m) (j : Int) = rd_T41 l (j : Int) := by
  unfold rd_T41
  simp [List.getElem?_take, h]
theorem rd_drop (l : List S41) (m j : Nat) : rd_T41 (l.drop m) (j : Int) = rd_T41 l ((m + j : Nat) : Int) := by
  unfold rd_T41
  simp only [Int.toNat_natCast, List.getD_eq_getElem?_getD, List.getElem?_drop]
theorem Md.take {l : List S41} {c : Nat} {t0 : Int} (h : Md l c t0) (m : Nat) : Md (l.take m) c t0 where
  c1 := h.c1
  c3 := h.c3
  t1 := h.t1
  t2 := by have := h.t2; have := List.length_take_le m l; have : (l.take m).length ≤ l.length := by rw [List.length_take]; omega
           omega
  len := by have := h.len; rw [List.length_take]; omega
  t := fun j hj => by
    rw [List.length_take] at hj
    rw [rd_take l m j (by omega)]
    exact h.t j (by omega)
  v := fun v hv => h.v v (List.mem_of_mem_take hv)
theorem Md.drop {l : List S41} {c : Nat} {t0 : Int} (h : Md l c t0) (m : Nat) (hm : m ≤ l.length) : Md (l.drop m) c (t0 + m) where
  c1 := h.c1
  c3 := h.c3
  t1 := by have := h.t1; omega
  t2 := by have := h.t2; rw [List.length_drop]; omega
  len := by have := h.len; rw [List.length_drop]; omega
  t := fun j hj => by
    rw [List.length_drop] at hj
    rw [rd_drop, h.t (m + j) (by omega)]
    omega
  v := fun v hv => h.v v (List.mem_of_mem_drop hv)

theorem Md.cars {l : List S41} {c : Nat} {t0 : Int} (h : Md l c t0) : ∀ v ∈ l, v.f2.length = cars l := by
  intro v hv
  have hn : 0 < l.length := List.length_pos_of_mem hv
  unfold Pure.cars
  rw [if_pos hn, (h.v v hv).n]
  exact (h.v _ (memV l 0 hn)).n.symm
end Go.Proofs.YtenlokaaloenmaaDoor.Pure
