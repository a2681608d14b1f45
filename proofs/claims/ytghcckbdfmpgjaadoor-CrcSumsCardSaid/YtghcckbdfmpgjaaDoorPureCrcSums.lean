/- Steps, checksums, whether they are good, and seals are the reference's. -/
import Derived.Test.YtghcckbdfmpgjaaDoorCrcMath
import Derived.Test.YtghcckbdfmpgjaaDoorS5
namespace Go.Proofs.YtghcckbdfmpgjaaDoor.Pure
open Go.RowKit Go.Proofs.YtghcckbdfmpgjaaDoor.S Go.Proofs.YtghcckbdfmpgjaaDoorW.PrintWords Go.Proofs.YtghcckbdfmpgjaaDoorW.PrintLast
set_option linter.unusedVariables false
set_option linter.unusedSimpArgs false

theorem CrcSums : tipstafflaw04_CrcSums.Pure := by
  intro c b s hc hb hs
  obtain ⟨K, hK⟩ : ∃ K : Nat, K = 3000 := ⟨_, rfl⟩
  refine ⟨K, ?_⟩
  have haw := awake_val (k := K) (by omega)
  have uc := u8_of hc
  have ub := u8_of hb
  unfold tipstafflaw04_CrcSums.f
  by_cases h1 : (s.size : Int) > 2000
  · rw [if_pos h1, haw]; rfl
  · rw [if_neg h1, step_val uc ub, Option.bind_some, stepR_val (by omega) uc ub, Option.bind_some, if_pos rfl]
    have h2 := sum_val s (by omega)
    have h3 := sumR_val (k := K) s hs (by omega)
    have hz : ∀ x : Int, (strOfNums [x]).size = 1 := fun x => size_str _
    rw [h2, Option.bind_some, h3, Option.bind_some, if_pos rfl]
    have g1 : crc_Good.f s = some (sumL (bytesOf s) 0 == 0) := by unfold crc_Good.f; rw [h2]; rfl
    have g2 : tipstaffref04_Good.f K s = some (sumL (bytesOf s) 0 == 0) := by unfold tipstaffref04_Good.f; rw [h3]; rfl
    have g3 : crc_Seal.f s = some (s ++ strOfNums [sumL (bytesOf s) 0]) := by unfold crc_Seal.f; rw [h2, Option.bind_some, Option.bind_some, if_pos (by rw [hz]; omega)]
    have g4 : tipstaffref04_Seal.f K s = some (s ++ strOfNums [sumL (bytesOf s) 0]) := by unfold tipstaffref04_Seal.f; rw [h3, Option.bind_some, Option.bind_some, if_pos (by rw [hz]; omega)]
    rw [g1, Option.bind_some, g2, Option.bind_some, if_pos (by simp), g3, Option.bind_some, g4, Option.bind_some, if_pos rfl, haw]; rfl

end Go.Proofs.YtghcckbdfmpgjaaDoor.Pure
