/- The text with a wanted checksum is the reference's. -/
import Derived.Test.YtghcckbdfmpgjaaDoorCrcFix
import Derived.Test.YtghcckbdfmpgjaaDoorS7
namespace Go.Proofs.YtghcckbdfmpgjaaDoor.Pure
open Go.RowKit Go.Proofs.YtghcckbdfmpgjaaDoor.S Go.Proofs.YtghcckbdfmpgjaaDoorW.PrintWords Go.Proofs.YtghcckbdfmpgjaaDoorW.PrintLast
set_option linter.unusedVariables false
set_option linter.unusedSimpArgs false

theorem CrcFixes : tipstafflaw04_CrcFixes.Pure := by
  intro s at_ want hs ha hw
  obtain ⟨K, hK⟩ : ∃ K : Nat, K = 1000 := ⟨_, rfl⟩
  refine ⟨K, ?_⟩
  have haw := awake_val (k := K) (by omega)
  have uw := u8_of hw
  unfold tipstafflaw04_CrcFixes.f
  by_cases h1 : (s.size : Int) > 60
  · rw [if_pos h1, haw]; rfl
  · rw [if_neg h1]
    by_cases h2 : at_ < 0 ∨ at_ ≥ s.size
    · have e1 : crc_Fix.f s at_ want = some (⟨#[]⟩, 2) := by unfold crc_Fix.f; rw [if_pos h2]
      have e2 : tipstaffref04_Fix.f K s at_ want = some (⟨#[]⟩, 2) := by unfold tipstaffref04_Fix.f; rw [if_pos h2]
      rw [e1, Option.bind_some, e2, Option.bind_some, if_pos rfl, if_pos rfl, haw]; rfl
    · obtain ⟨i, rfl⟩ := Int.eq_ofNat_of_zero_le (show 0 ≤ at_ by omega)
      obtain ⟨v, hv, rfl⟩ := set_surj (bytes_of s) i (by rw [bytesOf_length]; omega) uw
      rw [fix_val s (by omega) i (by omega) hv, Option.bind_some, rfix_val s (by omega) i (by omega) hv (by omega), Option.bind_some, if_pos rfl, if_pos rfl, haw]; rfl

end Go.Proofs.YtghcckbdfmpgjaaDoor.Pure
