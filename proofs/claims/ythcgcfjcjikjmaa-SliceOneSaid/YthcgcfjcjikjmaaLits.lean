/- Slices of two elements that have just been built, read. -/
import Derived.Test.YthcgcfjcjikjmaaS0
namespace Go.Proofs.Ythcgcfjcjikjmaa.S
open Go.RowKit Go.Proofs.YthcgcfjcjikjmaaW.PrintWords Go.Proofs.YthcgcfjcjikjmaaW.PrintLast Go.Proofs.YthcgcfjcjikjmaaW.PrintMore
set_option linter.unusedVariables false
set_option linter.unusedSimpArgs false

theorem C_lit2 (W : World) (e : TypeId) (k : IntKind) (x y : Int) : (Kd.int k).C (W.alloc (.cells #[.int k x, .int k y] e)) (some ⟨W.heap.size, 0, none⟩) 2 [x, y] := by
  refine ⟨rfl, by decide, fun _ => ⟨_, rfl, fun j p hj => ?_⟩⟩
  have hn := heap_alloc_new W (.cells #[.int k x, .int k y] e)
  match j, hj with
  | 0, hj =>
    simp at hj; subst hj
    refine ⟨[.int k x], rfl, rfl, fun i u hi => ?_⟩
    match i, hi with
    | 0, hi => simp at hi; subst hi; rw [add_plain]; exact (blk_cell hn 0).trans rfl
  | 1, hj =>
    simp at hj; subst hj
    refine ⟨[.int k y], rfl, rfl, fun i u hi => ?_⟩
    match i, hi with
    | 0, hi => simp at hi; subst hi; rw [add_plain]; exact (blk_cell hn 1).trans rfl

theorem C_bools2 (W : World) (e : TypeId) (x y : Bool) : Kd.bool.C (W.alloc (.cells #[.bool x, .bool y] e)) (some ⟨W.heap.size, 0, none⟩) 2 [x, y] := by
  refine ⟨rfl, by decide, fun _ => ⟨_, rfl, fun j p hj => ?_⟩⟩
  have hn := heap_alloc_new W (.cells #[.bool x, .bool y] e)
  match j, hj with
  | 0, hj =>
    simp at hj; subst hj
    refine ⟨[.bool x], rfl, rfl, fun i u hi => ?_⟩
    match i, hi with
    | 0, hi => simp at hi; subst hi; rw [add_plain]; exact (blk_cell hn 0).trans rfl
  | 1, hj =>
    simp at hj; subst hj
    refine ⟨[.bool y], rfl, rfl, fun i u hi => ?_⟩
    match i, hi with
    | 0, hi => simp at hi; subst hi; rw [add_plain]; exact (blk_cell hn 1).trans rfl
theorem C_bools4 (W : World) (e : TypeId) (x y z u : Bool) : Kd.bool.C (W.alloc (.cells #[.bool x, .bool y, .bool z, .bool u] e)) (some ⟨W.heap.size, 0, none⟩) 4 [x, y, z, u] := by
  refine ⟨rfl, by decide, fun _ => ⟨_, rfl, fun j p hj => ?_⟩⟩
  have hn := heap_alloc_new W (.cells #[.bool x, .bool y, .bool z, .bool u] e)
  match j, hj with
  | 0, hj =>
    simp at hj; subst hj
    refine ⟨[.bool x], rfl, rfl, fun i v hi => ?_⟩
    match i, hi with
    | 0, hi => simp at hi; subst hi; rw [add_plain]; exact (blk_cell hn 0).trans rfl
  | 1, hj =>
    simp at hj; subst hj
    refine ⟨[.bool y], rfl, rfl, fun i v hi => ?_⟩
    match i, hi with
    | 0, hi => simp at hi; subst hi; rw [add_plain]; exact (blk_cell hn 1).trans rfl
  | 2, hj =>
    simp at hj; subst hj
    refine ⟨[.bool z], rfl, rfl, fun i v hi => ?_⟩
    match i, hi with
    | 0, hi => simp at hi; subst hi; rw [add_plain]; exact (blk_cell hn 2).trans rfl
  | 3, hj =>
    simp at hj; subst hj
    refine ⟨[.bool u], rfl, rfl, fun i v hi => ?_⟩
    match i, hi with
    | 0, hi => simp at hi; subst hi; rw [add_plain]; exact (blk_cell hn 3).trans rfl

end Go.Proofs.Ythcgcfjcjikjmaa.S
