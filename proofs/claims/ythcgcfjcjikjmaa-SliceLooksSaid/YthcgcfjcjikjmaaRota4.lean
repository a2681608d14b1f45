/- Rotas in new memory, rotas alike, rotas too large; the chapter's examples. -/
import Derived.Test.YthcgcfjcjikjmaaS1
import Derived.Test.YthcgcfjcjikjmaaS5
import Derived.Test.YthcgcfjcjikjmaaS7
import Derived.Test.YthcgcfjcjikjmaaS8
import Derived.Test.YthcgcfjcjikjmaaS10
import Derived.Test.YthcgcfjcjikjmaaRota3
import Derived.Test.YthcgcfjcjikjmaaKit
import Derived.Test.YthcgcfjcjikjmaaOwn
namespace Go.Proofs.Ythcgcfjcjikjmaa.Pure
open Go.RowKit Go.Proofs.Ythcgcfjcjikjmaa.S Go.Proofs.YthcgcfjcjikjmaaW.PrintWords Go.Proofs.YthcgcfjcjikjmaaW.PrintLast
set_option linter.unusedVariables false
set_option linter.unusedSimpArgs false

theorem awake_val : Ev (fun k => tipstafflaw25_awake.f k) true := ⟨100, fun k hk => at_rounds tipstafflaw25_awake.mono hk (by decide +kernel)⟩

def small (R : List (List Int)) : Prop := R.length ≤ 10 ∧ ∀ l ∈ R, l.length ≤ 40

theorem large_loop (R : List (List Int)) : ∀ (d i : Nat), i + d = R.length → (∀ j, j < i → (rd_L1 R (j : Int)).length ≤ 40) → i ≤ 11 → ∃ b, Ev (fun k => tipstafflaw25_large.l0 k R (i : Int)) b ∧ (b = false → small R)
  | 0, i, hi, hj, h11 => by
    refine ⟨decide ((R.length : Int) > 10), Ev.step (g' := fun k => tipstafflaw25_large.j1 k R (i : Int) false) ((Ev.const _).step (fun k => by rw [tipstafflaw25_large.j1, if_neg (by decide)])) (fun k => by rw [tipstafflaw25_large.l0, if_neg (by omega)]), fun h => ?_⟩
    have := of_decide_eq_false h
    refine ⟨by omega, fun l hl => ?_⟩
    obtain ⟨j, hj', rfl⟩ := List.mem_iff_getElem.1 hl
    have := hj j (by omega)
    rwa [rdL_nat R j hj'] at this
  | d + 1, i, hi, hj, h11 => by
    by_cases hx : i < 11
    · by_cases hl : ((rd_L1 R (i : Int)).length : Int) > 40
      · refine ⟨true, Ev.step (g' := fun k => tipstafflaw25_large.j1 k R (i : Int) true) ((Ev.const _).step (fun k => by rw [tipstafflaw25_large.j1, if_pos rfl, if_pos (by omega), if_pos (by omega), if_pos hl])) (fun k => by rw [tipstafflaw25_large.l0, if_pos (by omega), decide_eq_true (by omega)]), fun h => by simp at h⟩
      · obtain ⟨b, hb, hs⟩ := large_loop R d (i + 1) (by omega) (fun j hj' => by
          by_cases hji : j = i
          · subst hji; omega
          · exact hj j (by omega)) (by omega)
        refine ⟨b, Ev.step (g' := fun k => tipstafflaw25_large.j1 k R (i : Int) true) (hb.step (fun k => by rw [tipstafflaw25_large.j1, if_pos rfl, if_pos (by omega), if_pos (by omega), if_neg hl, wrap_succ i (by omega)])) (fun k => by rw [tipstafflaw25_large.l0, if_pos (by omega), decide_eq_true (by omega)]), hs⟩
    · refine ⟨decide ((R.length : Int) > 10), Ev.step (g' := fun k => tipstafflaw25_large.j1 k R (i : Int) false) ((Ev.const _).step (fun k => by rw [tipstafflaw25_large.j1, if_neg (by decide)])) (fun k => by rw [tipstafflaw25_large.l0, if_pos (by omega), decide_eq_false (by omega)]), fun h => ?_⟩
      have := of_decide_eq_false h
      omega

theorem large_val (R : List (List Int)) : ∃ b, Ev (fun k => tipstafflaw25_large.f k R) b ∧ (b = false → small R) := large_loop R _ 0 (Nat.zero_add _) (fun j hj => by omega) (by omega)

theorem own_loop (R : List (List Int)) (hR : small R) : ∀ (d i : Nat), i + d = R.length → Ev (fun k => tipstafflaw25_own.l0 k R (R.take i) (i : Int)) R
  | 0, i, hi => (Ev.const _).step (fun k => by rw [tipstafflaw25_own.l0, if_neg (by omega), List.take_of_length_le (by omega)])
  | d + 1, i, hi => (own_loop R hR d (i + 1) (by omega)).step (fun k => by
      have h10 := hR.1
      have hl : (rd_L1 R (i : Int)).length ≤ 40 := by rw [rdL_nat R i (by omega)]; exact hR.2 _ (List.getElem_mem _)
      rw [tipstafflaw25_own.l0, if_pos (by omega), if_pos (by omega), own_val _ (by omega), Option.bind_some, if_pos (by rw [List.length_take]; omega), wrap_succ i (by omega), rdL_nat R i (by omega), show R.take i ++ [R[i]] = R.take (i + 1) by simp])

theorem own_rota (R : List (List Int)) (hR : small R) : Ev (fun k => tipstafflaw25_own.f k R) R := own_loop R hR _ 0 (Nat.zero_add _)

theorem same_loop25 (R : List (List Int)) (hR : small R) : ∀ (d i : Nat), i + d = R.length → Ev (fun k => tipstafflaw25_same.l0 k R R (i : Int)) true
  | 0, i, hi => (Ev.const _).step (fun k => by rw [tipstafflaw25_same.l0, if_neg (by omega)])
  | d + 1, i, hi => by
    obtain ⟨K, h⟩ := same_loop25 R hR d (i + 1) (by omega)
    dsimp only at h
    have h10 := hR.1
    have hl : (rd_L1 R (i : Int)).length ≤ 40 := by rw [rdL_nat R i (by omega)]; exact hR.2 _ (List.getElem_mem _)
    refine ⟨K + 100, fun k hk => ?_⟩
    dsimp only
    obtain ⟨m, rfl, hm⟩ := succ_of (show K + 99 < k by omega)
    rw [tipstafflaw25_same.l0, if_pos (by omega), if_pos (by omega), if_pos (by omega), same_self _ (by omega) (by omega), Option.bind_some, if_pos rfl, wrap_succ i (by omega), h m (by omega)]

theorem same_rota (R : List (List Int)) (hR : small R) : Ev (fun k => tipstafflaw25_same.f k R R) true :=
  (same_loop25 R hR _ 0 (Nat.zero_add _)).congr (fun k => by rw [tipstafflaw25_same.f, if_pos rfl]; rfl)

theorem slot_val (t l : Int) : slice_Slot.f t l = some (if okT t && okL l then (t / l, t % l, 0) else (0, 0, 2)) := by
  rw [slice_Slot.f, tick_val, Option.bind_some]
  show (if okT t = true then _ else _) = _
  by_cases h : okT t = true
  · rw [if_pos h, long_val, Option.bind_some]
    show (if okL l = true then _ else _) = _
    by_cases h' : okL l = true
    · rw [if_pos h']
      have a := okT_iff.1 h; have b := okL_iff.1 h'
      have q1 : 0 ≤ t / l := Int.ediv_nonneg (by omega) (by omega)
      have q2 : t / l ≤ t := Int.ediv_le_self l (by omega)
      rw [if_neg (show ¬ l = 0 by omega), Int.tdiv_eq_ediv_of_nonneg a.1, Int.tmod_eq_emod_of_nonneg a.1, wrap_id (t / l) (by omega) (by omega), if_pos (by rw [h, h']; rfl)]
    · rw [if_neg h', if_neg (by simp [h'])]
  · rw [if_neg h, if_neg (by simp [h])]

theorem slot_ref (t l : Int) : tipstaffref25_Slot.f t l = some (if okT t && okL l then (t / l, t % l, 0) else (0, 0, 2)) := by
  rw [tipstaffref25_Slot.f]
  by_cases h1 : t < 0
  · rw [if_pos h1, if_neg (by simp [okT_iff]; omega)]
  rw [if_neg h1]
  by_cases h2 : t > 1099511627776
  · rw [if_pos h2, if_neg (by simp [okT_iff]; omega)]
  rw [if_neg h2]
  by_cases h3 : l < 1
  · rw [if_pos h3, if_neg (by simp [okL_iff]; omega)]
  rw [if_neg h3]
  by_cases h4 : l > 2000000
  · rw [if_pos h4, if_neg (by simp [okL_iff]; omega)]
  rw [if_neg h4]
  have q1 : 0 ≤ t / l := Int.ediv_nonneg (by omega) (by omega)
  have q2 : t / l ≤ t := Int.ediv_le_self l (by omega)
  rw [if_neg (show ¬ l = 0 by omega), if_pos (show (okT t && okL l) = true by simp [okT_iff, okL_iff]; omega), Int.tdiv_eq_ediv_of_nonneg (by omega), Int.tmod_eq_emod_of_nonneg (by omega), wrap_id (t / l) (by omega) (by omega)]

end Go.Proofs.Ythcgcfjcjikjmaa.Pure
