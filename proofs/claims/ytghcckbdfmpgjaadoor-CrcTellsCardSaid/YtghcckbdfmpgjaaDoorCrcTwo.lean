/- Two neighbouring bits change the checksum. -/
import Derived.Test.YtghcckbdfmpgjaaDoorCrcFix
namespace Go.Proofs.YtghcckbdfmpgjaaDoor.Pure
open Go.RowKit Go.Proofs.YtghcckbdfmpgjaaDoor.S Go.Proofs.YtghcckbdfmpgjaaDoorW.PrintWords Go.Proofs.YtghcckbdfmpgjaaDoorW.PrintLast
set_option linter.unusedVariables false
set_option linter.unusedSimpArgs false

theorem bit_cases (r : Nat) (hr : r < 8) : (128 / 2 ^ r : Int) = 128 ∧ r = 0 ∨ (128 / 2 ^ r : Int) = 64 ∧ r = 1 ∨ (128 / 2 ^ r : Int) = 32 ∧ r = 2 ∨ (128 / 2 ^ r : Int) = 16 ∧ r = 3 ∨ (128 / 2 ^ r : Int) = 8 ∧ r = 4 ∨ (128 / 2 ^ r : Int) = 4 ∧ r = 5 ∨ (128 / 2 ^ r : Int) = 2 ∧ r = 6 ∨ (128 / 2 ^ r : Int) = 1 ∧ r = 7 := by
  rcases (show r = 0 ∨ r = 1 ∨ r = 2 ∨ r = 3 ∨ r = 4 ∨ r = 5 ∨ r = 6 ∨ r = 7 by omega) with rfl | rfl | rfl | rfl | rfl | rfl | rfl | rfl <;> decide
theorem bit_u8 (r : Nat) (hr : r < 8) : U8 (128 / 2 ^ r : Int) := by
  rcases bit_cases r hr with h | h | h | h | h | h | h | h <;> rw [h.1] <;> exact ⟨by decide, by decide⟩
theorem getD_u8 {l : List Int} (h : Bytes l) (j : Nat) : U8 (l.getD j 0) := by
  rw [List.getD_eq_getElem?_getD]
  by_cases hj : j < l.length
  · rw [List.getElem?_eq_getElem hj]; exact h _ (List.getElem_mem _)
  · rw [List.getElem?_eq_none (by omega)]; exact u8_0
theorem take_set (l : List Int) (j : Nat) (hj : j < l.length) (y : Int) : (l.set j y).take (j + 1) = l.take j ++ [y] := by
  rw [List.set_eq_take_append_cons_drop, if_pos hj]
  have hl : (l.take j).length = j := by rw [List.length_take]; omega
  rw [List.take_append, hl, List.take_of_length_le (by omega), show j + 1 - j = 1 by omega]
  rfl
theorem drop_set (l : List Int) (j : Nat) (hj : j < l.length) (y : Int) : (l.set j y).drop (j + 2) = l.drop (j + 2) := by
  rw [List.set_eq_take_append_cons_drop, if_pos hj]
  have hl : (l.take j).length = j := by rw [List.length_take]; omega
  rw [List.drop_append, hl, List.drop_of_length_le (by omega), show j + 2 - j = 2 by omega, List.nil_append, List.drop_succ_cons, List.drop_drop]
theorem two_bytes {l : List Int} (h : Bytes l) (t : Nat) (ht : t < 8 * l.length - 1) {y1 y2 : Int} (h1 : y1 = xr (l.getD (t / 8) 0) (128 / 2 ^ (t % 8))) (h2 : y2 = xr ((l.set (t / 8) y1).getD ((t + 1) / 8) 0) (128 / 2 ^ ((t + 1) % 8))) :
    Bytes ((l.set (t / 8) y1).set ((t + 1) / 8) y2) := by
  have u1 : U8 y1 := by rw [h1]; exact xr_u8 (getD_u8 h _) (bit_u8 _ (by omega))
  have b1 := h.set (t / 8) u1
  have u2 : U8 y2 := by rw [h2]; exact xr_u8 (getD_u8 b1 _) (bit_u8 _ (by omega))
  exact b1.set _ u2
theorem two_bits {l : List Int} (h : Bytes l) (t : Nat) (ht : t < 8 * l.length - 1) {y1 y2 : Int} (h1 : y1 = xr (l.getD (t / 8) 0) (128 / 2 ^ (t % 8))) (h2 : y2 = xr ((l.set (t / 8) y1).getD ((t + 1) / 8) 0) (128 / 2 ^ ((t + 1) % 8))) :
    sumL ((l.set (t / 8) y1).set ((t + 1) / 8) y2) 0 ≠ sumL l 0 := by
  have hj : t / 8 < l.length := by omega
  have u1 : U8 y1 := by rw [h1]; exact xr_u8 (getD_u8 h _) (bit_u8 _ (by omega))
  have b1 := h.set (t / 8) u1
  have u2 : U8 y2 := by rw [h2]; exact xr_u8 (getD_u8 b1 _) (bit_u8 _ (by omega))
  have ux := getD_u8 h (t / 8)
  obtain ⟨x, hx⟩ : ∃ x, l.getD (t / 8) 0 = x := ⟨_, rfl⟩
  rw [hx] at h1 ux
  have hxl : l.set (t / 8) x = l := by
    rw [← hx, List.getD_eq_getElem?_getD, List.getElem?_eq_getElem hj, Option.getD_some]; exact List.set_getElem_self hj
  by_cases h7 : t % 8 = 7
  · have e1 : (t + 1) / 8 = t / 8 + 1 := by omega
    have e2 : (t + 1) % 8 = 0 := by omega
    rw [e1, e2] at h2
    rw [e1]
    rw [h7] at h1
    obtain ⟨j, hjj⟩ : ∃ j, t / 8 = j := ⟨_, rfl⟩
    rw [hjj] at h2 hj hxl ⊢
    have hj2 : j + 1 < l.length := by omega
    obtain ⟨z, hz⟩ : ∃ z, l.getD (j + 1) 0 = z := ⟨_, rfl⟩
    have hz2 : (l.set j y1).getD (j + 1) 0 = z := by
      rw [← hz, List.getD_eq_getElem?_getD, List.getElem?_set_ne (by omega), List.getD_eq_getElem?_getD]
    have uz : U8 z := by rw [← hz]; exact getD_u8 h _
    rw [hz2] at h2
    have hzl : l.set (j + 1) z = l := by
      rw [← hz, List.getD_eq_getElem?_getD, List.getElem?_eq_getElem hj2, Option.getD_some]; exact List.set_getElem_self hj2
    intro e
    have hl1 : (l.set j y1).length = l.length := List.length_set
    have htk : l.take (j + 1) = l.take j ++ [x] := by
      conv => lhs; rw [← hxl]
      exact take_set l j hj x
    have er : sumL l 0 = sumL (l.drop (j + 1 + 1)) (turn2 (xr (sumL (l.take (j + 1)) 0) z)) := by
      have := sum_set (l := l) (j + 1) hj2 z
      rw [hzl] at this
      exact this
    rw [sum_set (j + 1) (by omega), take_set l j hj, show j + 1 + 1 = j + 2 from rfl, drop_set l j hj, er, htk, sumL_append, sumL_append] at e
    have us := sumL_u8 (h.take j) u8_0
    obtain ⟨u, hu⟩ : ∃ u, sumL (l.take j) 0 = u := ⟨_, rfl⟩
    rw [hu] at e us
    have s1 : sumL [y1] u = turn2 (xr u y1) := rfl
    have s2 : sumL [x] u = turn2 (xr u x) := rfl
    rw [s1, s2] at e
    have ua := turn2_u8 (xr_u8 us u1)
    have ub := turn2_u8 (xr_u8 us ux)
    have e3 := turn2_inj (xr_u8 ua u2) (xr_u8 ub uz) (sumL_inj (h.drop (j + 2)) (turn2_u8 (xr_u8 ua u2)) (turn2_u8 (xr_u8 ub uz)) e)
    have p1 : (128 / 2 ^ 7 : Int) = 1 := by decide
    have p2 : (128 / 2 ^ 0 : Int) = 128 := by decide
    rw [p1] at h1
    rw [p2] at h2
    have v1 : U8 1 := ⟨by decide, by decide⟩
    have v7 : U8 7 := ⟨by decide, by decide⟩
    have v128 : U8 128 := ⟨by decide, by decide⟩
    have t1 : turn2 1 = 7 := by decide
    have e4 : turn2 (xr u y1) = xr (turn2 (xr u x)) 7 := by rw [h1, ← xr_assoc us ux v1, turn2_lin (xr_u8 us ux) v1, t1]
    obtain ⟨A, hA⟩ : ∃ A, turn2 (xr u x) = A := ⟨_, rfl⟩
    rw [e4, hA, h2] at e3
    rw [hA] at ub
    -- xr (xr A 7) (xr z 128) = xr A z
    rw [xr_assoc ub v7 (xr_u8 uz v128)] at e3
    have e5 := xr_inj' (xr_u8 v7 (xr_u8 uz v128)) uz ub e3
    rw [← xr_assoc v7 uz v128, xr_comm v7 uz, xr_assoc uz v7 v128] at e5
    have e6 : xr 7 128 = 0 := xr_inj' (xr_u8 v7 v128) u8_0 uz (by rw [e5, xr_zero uz])
    exact absurd e6 (by decide)
  · have e1 : (t + 1) / 8 = t / 8 := by omega
    have e2 : (t + 1) % 8 = t % 8 + 1 := by omega
    rw [e1, e2] at h2
    rw [e1, List.set_set]
    have hy : (l.set (t / 8) y1).getD (t / 8) 0 = y1 := by simp [List.getD_eq_getElem?_getD, hj]
    rw [hy] at h2
    intro e
    rw [← hxl, List.set_set] at e
    have e3 := set_inj h (t / 8) hj u2 ux e
    have q1 := bit_u8 (t % 8) (by omega)
    have q2 := bit_u8 (t % 8 + 1) (by omega)
    rw [h2, h1, xr_assoc ux q1 q2] at e3
    have e4 : xr (128 / 2 ^ (t % 8)) (128 / 2 ^ (t % 8 + 1)) = 0 := xr_inj' (xr_u8 q1 q2) u8_0 ux (by rw [e3, xr_zero ux])
    have e5 := xr_eq_zero q1 q2 e4
    rcases bit_cases (t % 8) (by omega) with ⟨a, b⟩ | ⟨a, b⟩ | ⟨a, b⟩ | ⟨a, b⟩ | ⟨a, b⟩ | ⟨a, b⟩ | ⟨a, b⟩ | ⟨a, b⟩ <;> rw [b] at e5 <;> first | exact absurd e5 (by decide) | omega

end Go.Proofs.YtghcckbdfmpgjaaDoor.Pure
