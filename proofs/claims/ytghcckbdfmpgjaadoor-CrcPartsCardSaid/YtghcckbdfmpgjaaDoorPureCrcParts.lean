/- The checksum of two texts is that of both parts, joined. -/
import Derived.Test.YtghcckbdfmpgjaaDoorCrcMath
import Derived.Test.YtghcckbdfmpgjaaDoorS3
namespace Go.Proofs.YtghcckbdfmpgjaaDoor.Pure
open Go.RowKit Go.Proofs.YtghcckbdfmpgjaaDoor.S Go.Proofs.YtghcckbdfmpgjaaDoorW.PrintWords Go.Proofs.YtghcckbdfmpgjaaDoorW.PrintLast
set_option linter.unusedVariables false
set_option linter.unusedSimpArgs false

theorem CrcParts : tipstafflaw04_CrcParts.Pure := by
  intro s t hs ht
  obtain ⟨K, hK⟩ : ∃ K : Nat, K = 1000 := ⟨_, rfl⟩
  refine ⟨K + 1, ?_⟩
  have haw := awake_val (k := K) (by omega)
  unfold tipstafflaw04_CrcParts.f
  by_cases h1 : (s.size : Int) > 300
  · rw [if_pos h1, tipstafflaw04_CrcParts.j0, if_pos rfl, haw]; rfl
  · rw [if_neg h1]
    by_cases h2 : (t.size : Int) > 300
    · rw [decide_eq_true h2, tipstafflaw04_CrcParts.j0, if_pos rfl, haw]; rfl
    · rw [decide_eq_false h2, tipstafflaw04_CrcParts.j0, if_neg (by decide)]
      have us := sumL_u8 (bytes_of s) u8_0
      have ut := sumL_u8 (bytes_of t) u8_0
      have hst : (s ++ t).size = s.size + t.size := ByteArray.size_append
      have j1 := join_val (b := sumL (bytesOf t) 0) t.size (by omega) (show t.size + 1 < K by omega) us
      have j0 : crc_Join.f K (sumL (bytesOf s) 0) 0 0 = some (xr (pow2 0 (sumL (bytesOf s) 0)) 0, 0) := join_val 0 (by omega) (by omega) us
      rw [sum_val s (by omega), Option.bind_some, sum_val t (by omega), Option.bind_some, j1, Option.bind_some, Option.bind_some, j0, Option.bind_some]
      rw [if_pos rfl, if_pos rfl, if_pos (by omega), sum_val (s ++ t) (by omega), Option.bind_some]
      have e : xr (pow2 t.size (sumL (bytesOf s) 0)) (sumL (bytesOf t) 0) = sumL (bytesOf (s ++ t)) 0 := by
        rw [bytes_append, sumL_append, sumL_lin (bytes_of t) us, bytesOf_length]
      rw [if_pos e, Option.bind_some, if_pos (show (xr (pow2 0 (sumL (bytesOf s) 0)) 0, (0 : Int)).1 = sumL (bytesOf s) 0 from xr_zero us), haw]; rfl

end Go.Proofs.YtghcckbdfmpgjaaDoor.Pure
