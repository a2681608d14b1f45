/- Slices of two elements that have just been built, read. -/
import Derived.Test.YtghcckbdfmpgjaaDoorS0
namespace Go.Proofs.YtghcckbdfmpgjaaDoor.S
open Go.RowKit Go.Proofs.YtghcckbdfmpgjaaDoorW.PrintWords Go.Proofs.YtghcckbdfmpgjaaDoorW.PrintLast Go.Proofs.YtghcckbdfmpgjaaDoorW.PrintMore
set_option linter.unusedVariables false
set_option linter.unusedSimpArgs false

theorem C_lit2 (W : World) (e : TypeId) (k : IntKind) (x y : Int) : (Kd.int k).C (W.alloc (.cells #[.int k x, .int k y] e)) (some ⟨W.heap.size, 0, none⟩) 2 [x, y] := by
  refine ⟨rfl, by decide, fun _ => ⟨_, rfl, fun j p hj => ?_⟩⟩
  have hn := heap_alloc_new W (.cells #[.int k x, .int k y] e)
  match j, hj with
  | 0, hj =>
    simp at hj; subst hj
    refine ⟨[.int k x], rfl, rfl, fun i u hi => ?_⟩
    match i, hi with
    | 0, hi => simp at hi; subst hi; rw [add_plain]; exact (blk_cell hn 0).trans rfl
  | 1, hj =>
    simp at hj; subst hj
    refine ⟨[.int k y], rfl, rfl, fun i u hi => ?_⟩
    match i, hi with
    | 0, hi => simp at hi; subst hi; rw [add_plain]; exact (blk_cell hn 1).trans rfl

end Go.Proofs.YtghcckbdfmpgjaaDoor.S
