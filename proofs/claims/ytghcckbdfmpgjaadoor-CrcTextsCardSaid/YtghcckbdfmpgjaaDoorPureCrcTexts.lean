/- The text of bytes, and which bytes a text is, are the reference's. -/
import Derived.Test.YtghcckbdfmpgjaaDoorCrcMath
import Derived.Test.YtghcckbdfmpgjaaDoorS9
import Derived.Test.YtghcckbdfmpgjaaDoorS8
namespace Go.Proofs.YtghcckbdfmpgjaaDoor.Pure
open Go.RowKit Go.Proofs.YtghcckbdfmpgjaaDoor.S Go.Proofs.YtghcckbdfmpgjaaDoorW.PrintWords Go.Proofs.YtghcckbdfmpgjaaDoorW.PrintLast
set_option linter.unusedVariables false
set_option linter.unusedSimpArgs false

theorem value_fin : ∀ x : Fin 256, tipstaffref04_value.l0 17 (x.val : Int) 0 = some ((hexVal (x.val : Int)).getD (-1)) := by decide +kernel
theorem value_val {k : Nat} (hk : 17 ≤ k) {b : Int} (hb : U8 b) : tipstaffref04_value.f k b = some ((hexVal b).getD (-1)) := by
  obtain ⟨n, rfl, hn⟩ := u8_nat hb
  exact at_rounds (g := fun k => tipstaffref04_value.l0 k (n : Int) 0) (fun k => tipstaffref04_value.mono_l k _ _) hk (value_fin ⟨n, hn⟩)
theorem hexVal_range {b v : Int} (h : hexVal b = some v) : 0 ≤ v ∧ v ≤ 15 := by
  unfold hexVal at h
  split at h
  · cases h; omega
  · split at h
    · cases h; omega
    · cases h
theorem ref_loop (s : ByteArray) (hs : s.size ≤ 1000) : ∀ (d k i : Nat) (out : List Int) (half half' : Int), i + d = s.size → 3 * d + 25 ≤ k → 0 < s.size → out.length ≤ i → (i % 3 = 1 → half' = half ∧ 0 ≤ half ∧ half ≤ 15) →
    tipstaffref04_Parse.l0 k s (strOfNums out) half' (i : Int) = some (strOfNums (parseL ((bytesOf s).drop i) i out half).1, (parseL ((bytesOf s).drop i) i out half).2.1, (parseL ((bytesOf s).drop i) i out half).2.2) := by
  intro d
  induction d with
  | zero =>
    intro k i out half half' hi hk h0 ho hh
    obtain ⟨k, rfl, hk⟩ := succ_of (show 24 < k by omega)
    obtain ⟨k, rfl, hk⟩ := succ_of (show 23 < k by omega)
    rw [tipstaffref04_Parse.l0, if_neg (by omega), List.drop_eq_nil_of_le (by rw [bytesOf_length]; omega), parseL]
    by_cases h3 : i % 3 = 2
    · have e : (Int.tmod (i : Int) 3 != 2) = false := by rw [bne_eq_false_iff_eq, Int.tmod_eq_emod_of_nonneg (by omega)]; omega
      rw [e, tipstaffref04_Parse.j1, if_neg (by decide), if_neg (by omega)]
    · have e : (Int.tmod (i : Int) 3 != 2) = true := by rw [bne_iff_ne, Int.tmod_eq_emod_of_nonneg (by omega)]; omega
      rw [e, tipstaffref04_Parse.j1, if_pos rfl, if_pos (by omega), if_pos (by omega)]; rfl
  | succ d ih =>
    intro k i out half half' hi hk h0 ho hh
    obtain ⟨k, rfl, hk⟩ := succ_of (show 24 + 3 * d < k by omega)
    obtain ⟨k, rfl, hk⟩ := succ_of (show 23 + 3 * d < k by omega)
    have hb : U8 (bt s (i : Int)) := bt_range s _
    have hd : (bytesOf s).drop i = bt s (i : Int) :: (bytesOf s).drop (i + 1) := by rw [← rd_bytesOf]; exact drop_rd _ _ (by rw [bytesOf_length]; omega)
    have ht : Int.tmod (i : Int) 3 = ((i % 3 : Nat) : Int) := by rw [Int.tmod_eq_emod_of_nonneg (by omega)]; omega
    rw [tipstaffref04_Parse.l0, if_pos (by omega), tipstaffref04_Parse.j1, if_pos rfl, if_neg (by omega), if_pos (by omega), if_pos (by omega), value_val (by omega) hb, Option.bind_some, hd, parseL, ht]
    obtain ⟨b, hbb⟩ : ∃ b, bt s (i : Int) = b := ⟨_, rfl⟩
    rw [hbb] at hb ⊢
    obtain ⟨k, rfl, hk⟩ := succ_of (show 22 + 3 * d < k by omega)
    by_cases h3 : i % 3 = 2
    · rw [if_pos (show ((i % 3 : Nat) : Int) = 2 by omega), if_pos h3]
      by_cases h32 : b = 32
      · rw [if_pos h32, if_pos h32, if_neg (show ¬ ((i % 3 : Nat) : Int) < 2 by omega), tipstaffref04_Parse.j2, if_neg (by decide), ht, if_neg (show ¬ ((i % 3 : Nat) : Int) = 0 by omega), if_neg (show ¬ ((i % 3 : Nat) : Int) = 1 by omega), wrap_succ i (by omega)]
        exact ih k (i + 1) out half half' (by omega) (by omega) h0 (by omega) (fun h => by omega)
      · rw [if_neg h32, if_neg h32, tipstaffref04_Parse.j2, if_pos rfl]; rfl
    · rw [if_neg (show ¬ ((i % 3 : Nat) : Int) = 2 by omega), if_neg h3, if_pos (show ((i % 3 : Nat) : Int) < 2 by omega)]
      cases hv : hexVal b with
      | none =>
        rw [Option.getD_none, show decide ((-1 : Int) < 0) = true from rfl, tipstaffref04_Parse.j2, if_pos rfl]; rfl
      | some v =>
        have hr := hexVal_range hv
        rw [Option.getD_some, decide_eq_false (show ¬ v < 0 by omega), tipstaffref04_Parse.j2, if_neg (by decide), ht]
        simp only
        by_cases h1 : i % 3 = 1
        · obtain ⟨rfl, q0, q1⟩ := hh h1
          rw [if_neg (show ¬ ((i % 3 : Nat) : Int) = 0 by omega), if_pos (show ((i % 3 : Nat) : Int) = 1 by omega), Option.bind_some, if_pos (by rw [size_str, size_str]; simp; omega), wrap_succ i (by omega), if_pos h1]
          have e : wrap64 (wrap64 (16 * half') + v) % 256 = half' * 16 + v := by unfold wrap64; omega
          rw [e, strOfNums_append]
          exact ih k (i + 1) _ v half' (by omega) (by omega) h0 (by simp; omega) (fun h => by omega)
        · rw [if_pos (show ((i % 3 : Nat) : Int) = 0 by omega), wrap_succ i (by omega), if_neg h1]
          exact ih k (i + 1) out v v (by omega) (by omega) h0 (by omega) (fun _ => ⟨rfl, hr.1, hr.2⟩)
theorem ref_val (s : ByteArray) {k : Nat} (hs : s.size ≤ 1000 ∨ 20000 < s.size) (hk : 4000 ≤ k) : tipstaffref04_Parse.f k s = crc_Parse.f s := by
  unfold tipstaffref04_Parse.f crc_Parse.f
  by_cases h1 : (s.size : Int) > 20000
  · rw [if_pos h1, if_pos h1]
  · rw [if_neg h1, if_neg h1]
    by_cases h0 : s.size = 0
    · have e : s = ⟨#[]⟩ := by
        apply ByteArray.ext
        exact Array.eq_empty_of_size_eq_zero h0
      subst e
      rw [if_pos (nil_of_size rfl)]; rfl
    · rw [if_neg (ne_of_size h0)]
      exact ref_loop s (by omega) s.size k 0 [] 0 0 (by omega) (by omega) (by omega) (by simp) (fun h => by omega)

theorem CrcTexts : tipstafflaw04_CrcTexts.Pure := by
  intro s t hs ht
  obtain ⟨K, hK⟩ : ∃ K : Nat, K = 5000 := ⟨_, rfl⟩
  refine ⟨K + 1, ?_⟩
  have haw := awake_val (k := K) (by omega)
  have main : s.size ≤ 1000 → (t.size ≤ 1000 ∨ 20000 < t.size) → tipstafflaw04_CrcTexts.j0 (K + 1) s t false = some true := fun h1 h2 => by
    rw [tipstafflaw04_CrcTexts.j0, if_neg (by decide), ref_val t h2 (by omega)]
    have e1 : crc_Hex.f s = some (strOfNums (hexL true (bytesOf s))) := by unfold crc_Hex.f; rw [if_pos (by omega)]
    have e2 : tipstaffref04_Hex.f K s = some (strOfNums (hexL true (bytesOf s))) := e1
    obtain ⟨⟨a, b, c⟩, h⟩ : ∃ r, crc_Parse.f t = some r := by unfold crc_Parse.f; split <;> exact ⟨_, rfl⟩
    rw [h, Option.bind_some, Option.bind_some, e1, Option.bind_some, e2, Option.bind_some, if_pos rfl, if_pos rfl, if_pos (by simp), haw]; rfl
  have skip : tipstafflaw04_CrcTexts.j0 (K + 1) s t true = some true := by
    rw [tipstafflaw04_CrcTexts.j0, if_pos rfl, haw]; rfl
  unfold tipstafflaw04_CrcTexts.f
  by_cases h1 : (s.size : Int) > 1000
  · rw [if_pos h1]; exact skip
  · rw [if_neg h1]
    by_cases h2 : (t.size : Int) > 1000
    · rw [if_pos h2]
      by_cases h3 : (t.size : Int) ≤ 20000
      · rw [if_pos h3]; exact skip
      · rw [if_neg h3]
        by_cases h4 : (t.size : Int) > 20100
        · rw [decide_eq_true h4]; exact skip
        · rw [decide_eq_false h4]; exact main (by omega) (by omega)
    · rw [if_neg h2]
      by_cases h4 : (t.size : Int) > 20100
      · omega
      · rw [decide_eq_false h4]; exact main (by omega) (by omega)

end Go.Proofs.YtghcckbdfmpgjaaDoor.Pure
