/- Which limits are allowed, the band of a load, and the held band after another one are as the reference says, for all limits and numbers. -/
import Derived.Test.YtifcjlehbmbacaaAskLoadBands
import Derived.Test.YtifcjlehbmbacaaRefs
namespace Go.Proofs.Ytifcjlehbmbacaa.Pure
open Go.RowKit Go.Proofs.Ytifcjlehbmbacaa.S Go.Proofs.YtifcjlehbmbacaaW.PrintWords Go.Proofs.YtifcjlehbmbacaaW.PrintLast
set_option linter.unusedVariables false
set_option linter.unusedSimpArgs false

theorem LoadBands : LoadBands.Stmt := by
  intro e f s b n w0 w1 w2 _ _
  obtain ⟨K, hK⟩ : ∃ K : Nat, K = 102 := ⟨_, rfl⟩
  refine ⟨K, ?_⟩
  unfold tipstafflaw11_LoadBands.f
  have hf := i64_of w1
  have hs := i64_of w2
  rw [band_val (by omega), ref_band_val (by omega) _ _ _ _ hf hs, held_val (by omega), ref_held_val (by omega) _ _ _ _ _ hf hs, chk_val (by omega), ref_chk_val (by omega) _ _ _ hf hs]
  simp only [Option.bind_some, if_true, if_false]
  rw [awake_val _ (by omega)]; rfl

end Go.Proofs.Ytifcjlehbmbacaa.Pure
