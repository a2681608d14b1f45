/- A greater load has no lower band, also held; a held band is the band or the one before; without slack it is the band: for all numbers. -/
import Derived.Test.YtifcjlehbmbacaaS14
import Derived.Test.YtifcjlehbmbacaaBase
namespace Go.Proofs.Ytifcjlehbmbacaa.Pure
open Go.RowKit Go.Proofs.Ytifcjlehbmbacaa.S Go.Proofs.YtifcjlehbmbacaaW.PrintWords Go.Proofs.YtifcjlehbmbacaaW.PrintLast
set_option linter.unusedVariables false
set_option linter.unusedSimpArgs false

theorem isL_of {n : Int} (h : 0 ≤ n) (h' : n ≤ 10000) : isL n = true := by unfold isL; simp; omega
theorem bandV_good {e f s n : Int} (h : chk e f s = 0) (h0 : 0 ≤ n) (h1 : n ≤ 10000) : bandV e f s n = (bnd e f n, 0) := by
  unfold bandV; rw [if_pos h, if_pos (isL_of h0 h1)]
theorem heldV_good {e f s b n : Int} (h : chk e f s = 0) (h0 : 0 ≤ n) (h1 : n ≤ 10000) (hb : 1 ≤ b) (hb' : b ≤ 3) : heldV e f s b n = (hld e f s b n, 0) := by
  unfold heldV; rw [bandV_good h h0 h1]; rw [if_pos rfl, if_neg (by omega), if_neg (by omega)]

theorem grows_step {k : Nat} (hk : 1 ≤ k) (lo hi b e f s : Int) (hc : chk e f s = 0) (hs : 0 ≤ s) (hf : e + 2 * s + 1 ≤ f) (h0 : 0 ≤ lo) (h1 : lo ≤ hi) (h2 : hi ≤ 10000) (hb : 1 ≤ b) (hb' : b ≤ 3) :
    tipstafflaw11_LoadGrows.l0 (k + 1) lo hi b e f s = tipstafflaw11_LoadGrows.l0 k lo hi (b + 1) e f s := by
  have a1 : ¬ bnd e f hi < bnd e f lo := by unfold bnd; (repeat' split) <;> omega
  have a2 : ¬ hld e f s b hi < hld e f s b lo := by unfold hld bnd; (repeat' split) <;> omega
  have a3 : hld e f s b lo ≠ bnd e f lo → hld e f s b lo = b ∧ s ≠ 0 := by unfold hld bnd; (repeat' split) <;> omega
  conv => lhs; rw [tipstafflaw11_LoadGrows.l0]
  rw [if_pos hb', band_val hk, band_val hk, held_val hk, held_val hk, bandV_good hc h0 (by omega), bandV_good hc (by omega) h2, heldV_good hc h0 (by omega) hb hb', heldV_good hc (by omega) h2 hb hb']
  simp only [Option.bind_some, if_true, if_false]
  rw [if_neg a1, if_neg a2, wrap_id (b + 1) (by omega) (by omega)]
  by_cases h : hld e f s b lo = bnd e f lo
  · rw [if_pos h]; split <;> rfl
  · obtain ⟨h3, h4⟩ := a3 h
    rw [if_neg h, if_pos h3, if_neg h4]

theorem LoadGrows : tipstafflaw11_LoadGrows.Pure := by
  intro a0 a1 a2 w0 w1 w2
  obtain ⟨e, f, s, hm, he0, he1, hs0, hs1, hf0, hf1⟩ := made_val a0 (i64_of w0)
  have ex := mod_val a1 200 (i64_of w1) (by omega) (by omega)
  have hx0 := Int.emod_nonneg a1 (show (200 : Int) ≠ 0 by omega)
  have hx1 := Int.emod_lt_of_pos a1 (show (0 : Int) < 200 by omega)
  generalize a1 % 200 = x at *
  have ey := mod_val a2 200 (i64_of w2) (by omega) (by omega)
  have hy0 := Int.emod_nonneg a2 (show (200 : Int) ≠ 0 by omega)
  have hy1 := Int.emod_lt_of_pos a2 (show (0 : Int) < 200 by omega)
  generalize a2 % 200 = y at *
  have hc := chk_made ⟨he0, he1, hs0, hs1, hf0, hf1⟩
  obtain ⟨K, hK⟩ : ∃ K : Nat, K = 100 := ⟨_, rfl⟩
  refine ⟨K + 1 + 1 + 1 + 1, ?_⟩
  unfold tipstafflaw11_LoadGrows.f
  rw [hm]; simp only [Option.bind_some, if_true, if_false]
  rw [ex]; simp only [Option.bind_some, if_true, if_false]
  rw [ey]; simp only [Option.bind_some, if_true, if_false]
  have hlo : 0 ≤ mn x y ∧ mn x y ≤ mx x y ∧ mx x y ≤ 10000 := by unfold mn mx; omega
  rw [grows_step (by omega) _ _ _ _ _ _ hc hs0 hf0 hlo.1 hlo.2.1 hlo.2.2 (by omega) (by omega), grows_step (by omega) _ _ _ _ _ _ hc hs0 hf0 hlo.1 hlo.2.1 hlo.2.2 (by omega) (by omega), grows_step (by omega) _ _ _ _ _ _ hc hs0 hf0 hlo.1 hlo.2.1 hlo.2.2 (by omega) (by omega)]
  rw [tipstafflaw11_LoadGrows.l0]
  rw [if_neg (by omega), awake_val _ (by omega)]; rfl

end Go.Proofs.Ytifcjlehbmbacaa.Pure
