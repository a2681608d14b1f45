/- In each slot each car belongs to exactly one domain; Share adds up; domains repeat with the cycle; a car is among Cars exactly if its slot is among Slots. -/
import Derived.Test.YthcgcfjcjikjmaaS7
import Derived.Test.YthcgcfjcjikjmaaMade25P
namespace Go.Proofs.Ythcgcfjcjikjmaa.Pure
open Go.RowKit Go.Proofs.Ythcgcfjcjikjmaa.S Go.Proofs.YthcgcfjcjikjmaaW.PrintWords Go.Proofs.YthcgcfjcjikjmaaW.PrintLast Go.Proofs.YthcgcfjcjikjmaaW.PrintMore
set_option linter.unusedVariables false
set_option linter.unusedSimpArgs false

theorem known_val' : Ev (fun k => tipstafflaw25_SliceKnown.f k) true := ⟨100, fun k hk => at_rounds tipstafflaw25_SliceKnown.mono hk (by decide +kernel)⟩

/-! ### Share adds up -/
theorem tally_sum : ∀ (row : List Int) (a b c e : Int), 0 ≤ a → 0 ≤ b → 0 ≤ c → 0 ≤ e → (∀ x ∈ row, 0 ≤ x ∧ x ≤ 3) → a + b + c + e + row.length ≤ 100000 →
    ∃ a' b' c' e', tallyL row [a, b, c, e] = some [a', b', c', e'] ∧ 0 ≤ a' ∧ 0 ≤ b' ∧ 0 ≤ c' ∧ 0 ≤ e' ∧ a' + b' + c' + e' = a + b + c + e + row.length
  | [], a, b, c, e, ha, hb, hc, he, _, _ => ⟨a, b, c, e, rfl, ha, hb, hc, he, by simp⟩
  | d :: row, a, b, c, e, ha, hb, hc, he, hr, hs => by
    have hd := hr d (by simp)
    have hl : ((d :: row).length : Int) = row.length + 1 := by simp
    rw [hl] at hs ⊢
    have hr' : ∀ x ∈ row, 0 ≤ x ∧ x ≤ 3 := fun x hx => hr x (by simp [hx])
    rw [tallyL, if_pos hd]
    rcases (by omega : d = 0 ∨ d = 1 ∨ d = 2 ∨ d = 3) with rfl | rfl | rfl | rfl
    · obtain ⟨a', b', c', e', h1, h2, h3, h4, h5, h6⟩ := tally_sum row (a + 1) b c e (by omega) hb hc he hr' (by omega)
      refine ⟨a', b', c', e', ?_, h2, h3, h4, h5, by omega⟩
      rw [show rd [a, b, c, e] 0 = a from rfl, wrap_id _ (by omega) (by omega)]; exact h1
    · obtain ⟨a', b', c', e', h1, h2, h3, h4, h5, h6⟩ := tally_sum row a (b + 1) c e ha (by omega) hc he hr' (by omega)
      refine ⟨a', b', c', e', ?_, h2, h3, h4, h5, by omega⟩
      rw [show rd [a, b, c, e] 1 = b from rfl, wrap_id _ (by omega) (by omega)]; exact h1
    · obtain ⟨a', b', c', e', h1, h2, h3, h4, h5, h6⟩ := tally_sum row a b (c + 1) e ha hb (by omega) he hr' (by omega)
      refine ⟨a', b', c', e', ?_, h2, h3, h4, h5, by omega⟩
      rw [show rd [a, b, c, e] 2 = c from rfl, wrap_id _ (by omega) (by omega)]; exact h1
    · obtain ⟨a', b', c', e', h1, h2, h3, h4, h5, h6⟩ := tally_sum row a b c (e + 1) ha hb hc (by omega) hr' (by omega)
      refine ⟨a', b', c', e', ?_, h2, h3, h4, h5, by omega⟩
      rw [show rd [a, b, c, e] 3 = e from rfl, wrap_id _ (by omega) (by omega)]; exact h1

theorem share_sum (n : Nat) (hn : n ≤ 24) : ∀ (R : List (List Int)) (a b c e : Int), 0 ≤ a → 0 ≤ b → 0 ≤ c → 0 ≤ e → R.length ≤ 8 → a + b + c + e + R.length * 24 ≤ 100000 → (∀ r ∈ R, r.length = n ∧ ∀ x ∈ r, 0 ≤ x ∧ x ≤ 3) →
    ∃ a' b' c' e', shareL R [a, b, c, e] = some [a', b', c', e'] ∧ a' + b' + c' + e' = a + b + c + e + R.length * n
  | [], a, b, c, e, _, _, _, _, _, _, _ => ⟨a, b, c, e, rfl, by simp⟩
  | r :: R, a, b, c, e, ha, hb, hc, he, hl, hs, hr => by
    have hlen : ((r :: R).length : Int) = R.length + 1 := by simp
    rw [hlen] at hs ⊢
    have hrn := hr r (by simp)
    obtain ⟨a', b', c', e', h1, h2, h3, h4, h5, h6⟩ := tally_sum r a b c e ha hb hc he hrn.2 (by omega)
    obtain ⟨a2, b2, c2, e2, g1, g2⟩ := share_sum n hn R a' b' c' e' h2 h3 h4 h5 (by simp at hl; omega) (by omega) (fun x hx => hr x (by simp [hx]))
    refine ⟨a2, b2, c2, e2, by rw [shareL, h1, Option.bind_some, g1], ?_⟩
    have : ((R.length : Int) + 1) * n = R.length * n + n := by rw [Int.add_mul, Int.one_mul]
    omega

theorem rota_rows (R : List (List Int)) (hR : OkR R) : ∀ r ∈ R, r.length = (rd_L1 R 0).length ∧ ∀ x ∈ r, 0 ≤ x ∧ x ≤ 3 := by
  intro r hr
  obtain ⟨i, hi, rfl⟩ := List.mem_iff_getElem.1 hr
  obtain ⟨_, _, _, _, h5⟩ := hR
  have := h5 i (by omega) (by omega)
  rw [rdL_nat R i hi] at this
  refine ⟨this.1, fun x hx => ?_⟩
  obtain ⟨j, hj, rfl⟩ := List.mem_iff_getElem.1 hx
  have := this.2 j (by omega) (by omega)
  rwa [rd_nat _ j hj] at this

/-! ### one car, one domain -/
theorem at_range (R : List (List Int)) (hR : OkR R) (s c : Int) (hc : 1 ≤ c) (hc' : c ≤ R.length) : 0 ≤ at_ R s (c - 1) ∧ at_ R s (c - 1) ≤ 3 := by
  obtain ⟨_, _, h3, _, h5⟩ := hR
  exact (h5 (c - 1) (by omega) (by omega)).2 _ (Int.emod_nonneg s (by omega)) (Int.emod_lt_of_pos s (by omega))

theorem dom_round (R : List (List Int)) (hR : OkR R) (hck : (checkF R).1 = 0) (s c : Int) (hs : 0 ≤ s ∧ s < 1000) (hc : 1 ≤ c) (hc' : c ≤ R.length) (v : Int) (hv : v = at_ R s (c - 1)) (V : Bool)
    (hV : Ev (fun k => tipstafflaw25_SliceOne.l0 k s true R ((rd_L1 R 0).length : Int) (c + 1)) V) :
    ∀ (e : Nat) (d : Int), 0 ≤ d → d + e = 4 → Ev (fun k => tipstafflaw25_SliceOne.l1 k s true R ((rd_L1 R 0).length : Int) c (if v < d then 1 else 0) d) V
  | 0, d, h0, h4 => by
    have hr := at_range R hR s c hc hc'
    have h2 := hR.2.1
    refine hV.step (fun k => ?_)
    rw [tipstafflaw25_SliceOne.l1, if_neg (show ¬ d < 4 by omega), if_pos (show v < d by omega), if_pos rfl, wrap_id (c + 1) (by omega) (by omega)]
  | e + 1, d, h0, h4 => by
    obtain ⟨K0, ih⟩ := dom_round R hR hck s c hs hc hc' v hv V hV e (d + 1) (by omega) (by omega)
    have hR' := hR
    obtain ⟨r1, r2, r3, r4, r5⟩ := hR'
    obtain ⟨K1, h1⟩ := cars_val R s d
    obtain ⟨K2, h2⟩ := slots_val R c d
    obtain ⟨K3, h3⟩ := domain_val R 7 c (7 * s + 3)
    obtain ⟨K4, h4'⟩ := domain_val R 7 c (7 * (s + ((rd_L1 R 0).length : Int)) + 6)
    have a1 : askF R (okT s && okD d) = 0 := by unfold askF; rw [if_pos hck, okT_iff.2 (by omega), okD_iff.2 (by omega)]; rfl
    have a2 : askF R (okC R c && okD d) = 0 := by unfold askF; rw [if_pos hck, okC_iff.2 ⟨hc, hc'⟩, okD_iff.2 (by omega)]; rfl
    have dok : ∀ t, 0 ≤ t → t ≤ 100000 → domF R 7 c t = (at_ R (t / 7) (c - 1), 0) := fun t t0 t1 => by
      have : askF R (okL 7 && okC R c && okT t) = 0 := by unfold askF; rw [if_pos hck, show okL 7 = true from rfl, okC_iff.2 ⟨hc, hc'⟩, okT_iff.2 (by omega)]; rfl
      unfold domF; rw [if_pos this]
    have f1 : carsF R s d = (pickL (fun i => at_ R s i == d) 1 R.length 0, 0) := by unfold carsF; rw [if_pos a1]
    have f2 : slotsF R c d = (slotsL R c d, 0) := by unfold slotsF; rw [if_pos a2]
    have f3 : domF R 7 c (7 * s + 3) = (v, 0) := by rw [dok _ (by omega) (by omega), show (7 * s + 3) / 7 = s by omega, hv]
    have f4 : domF R 7 c (7 * (s + ((rd_L1 R 0).length : Int)) + 6) = (v, 0) := by
      rw [dok _ (by omega) (by omega), show (7 * (s + ((rd_L1 R 0).length : Int)) + 6) / 7 = s + ((rd_L1 R 0).length : Int) by omega, hv]
      unfold at_; rw [Int.add_emod_right]
    rw [f1] at h1; rw [f2] at h2; rw [f3] at h3; rw [f4] at h4'
    obtain ⟨K5, h5⟩ := has_val (pickL (fun i => at_ R s i == d) 1 R.length 0) (by have := pickL_len (fun i => at_ R s i == d) 1 R.length 0; omega) c
    obtain ⟨K6, h6⟩ := has_val (slotsL R c d) (by have := slotsL_len R c d; omega) (s % ((rd_L1 R 0).length : Int))
    have m1 : decide (c ∈ pickL (fun i => at_ R s i == d) 1 R.length 0) = decide (v = d) := by
      congr 1; rw [mem_pickL, hv]; simp; omega
    have m2 : decide (s % ((rd_L1 R 0).length : Int) ∈ slotsL R c d) = decide (v = d) := by
      congr 1; rw [mem_slots_mod R hR, hv]; unfold mine; simp
    rw [m1] at h5; rw [m2] at h6
    dsimp only at h1 h2 h3 h4' h5 h6 ih
    refine ⟨K0 + K1 + K2 + K3 + K4 + K5 + K6 + 1 + 1, fun k hk => ?_⟩
    obtain ⟨m, rfl, hm⟩ := succ_of (show K0 + K1 + K2 + K3 + K4 + K5 + K6 + 1 < k by omega)
    obtain ⟨m, rfl, hm'⟩ := succ_of (show K0 + K1 + K2 + K3 + K4 + K5 + K6 < m by omega)
    dsimp only
    rw [tipstafflaw25_SliceOne.l1, if_pos (show d < 4 by omega), h1 _ (by omega), Option.bind_some, h2 _ (by omega), Option.bind_some, wrap_id (7 * s) (by omega) (by omega), wrap_id (7 * s + 3) (by omega) (by omega), h3 _ (by omega), Option.bind_some, wrap_id (s + ((rd_L1 R 0).length : Int)) (by omega) (by omega), wrap_id (7 * (s + ((rd_L1 R 0).length : Int))) (by omega) (by omega), wrap_id (7 * (s + ((rd_L1 R 0).length : Int)) + 6) (by omega) (by omega), h4' _ (by omega), Option.bind_some]
    dsimp only
    rw [if_pos rfl, if_pos rfl, if_pos rfl, if_pos rfl, if_pos rfl, h5 _ (by omega), Option.bind_some, if_neg (show ¬ ((rd_L1 R 0).length : Int) = 0 by omega), Int.tmod_eq_emod_of_nonneg hs.1, h6 _ (by omega), Option.bind_some, if_neg (show ¬ (decide (v = d) != decide (v = d)) = true by simp), Option.bind_some, show (decide (v = d) != (v == d)) = false by by_cases h : v = d <;> simp [h]]
    rw [tipstafflaw25_SliceOne.j3, if_neg (by decide), h5 _ (by omega), Option.bind_some, wrap_id (d + 1) (by omega) (by omega)]
    by_cases hvd : v = d
    · rw [if_pos (decide_eq_true hvd), if_neg (show ¬ v < d by omega), show wrap64 (0 + 1) = 1 by unfold wrap64; omega]
      rw [if_pos (show v < d + 1 by omega)] at ih
      exact ih m (by omega)
    · rw [if_neg (by simpa using hvd)]
      rw [show (if v < d + 1 then (1 : Int) else 0) = (if v < d then 1 else 0) by by_cases h : v < d <;> simp [h] <;> omega] at ih
      exact ih m (by omega)

theorem car_rounds (R : List (List Int)) (hR : OkR R) (hck : (checkF R).1 = 0) (s : Int) (hs : 0 ≤ s ∧ s < 1000) : ∀ (e : Nat) (c : Int), 1 ≤ c → c + e = R.length + 1 → Ev (fun k => tipstafflaw25_SliceOne.l0 k s true R ((rd_L1 R 0).length : Int) c) true
  | 0, c, h1, h2 => (Ev.const _).step (fun k => by rw [tipstafflaw25_SliceOne.l0, if_neg (by omega)])
  | e + 1, c, h1, h2 => by
    have ih := car_rounds R hR hck s hs e (c + 1) (by omega) (by omega)
    have := dom_round R hR hck s c hs h1 (by omega) _ rfl true ih 4 0 (by omega) (by omega)
    rw [if_neg (show ¬ at_ R s (c - 1) < 0 by have := at_range R hR s c h1 (by omega); omega)] at this
    refine this.step (fun k => ?_)
    rw [tipstafflaw25_SliceOne.l0, if_pos (by omega)]

theorem SliceOne : tipstafflaw25_SliceOne.Pure := by
  intro a0 a1 l2 a3 h0 h1 _ _ hl h3
  obtain ⟨R, ⟨K1, hmade⟩, hck, hR, hR4, hR6⟩ := made_val a0 a1 (i64_of h0) (i64_of h1) l2 (fun x hx => i64_of (hl x hx))
  obtain ⟨K2, hkn⟩ := known_val'
  have hR' := hR
  obtain ⟨r1, r2, r3, r4, r5⟩ := hR'
  obtain ⟨s, hs⟩ : ∃ s, s = a3 % 1000 := ⟨_, rfl⟩
  obtain ⟨K4, hl0⟩ := car_rounds R hR hck s (by omega) R.length 1 (by omega) (by omega)
  obtain ⟨a, b, c, e, g1, g2⟩ := share_sum (rd_L1 R 0).length (by omega) R 0 0 0 0 (by omega) (by omega) (by omega) (by omega) (by omega) (by omega) (rota_rows R hR)
  obtain ⟨K3, hsh⟩ := share_ok R hck _ g1
  dsimp only at hmade hkn hsh hl0
  have hb : (R.length : Int) * ((rd_L1 R 0).length : Int) ≤ 8 * 24 := Int.mul_le_mul (by omega) (by omega) (by omega) (by omega)
  have hb0 : 0 ≤ (R.length : Int) * ((rd_L1 R 0).length : Int) := Int.mul_nonneg (by omega) (by omega)
  have hsum : (wrap64 ((wrap64 ((wrap64 (a + b)) + c)) + e) != wrap64 ((R.length : Int) * ((rd_L1 R 0).length : Int))) = false := by
    have : wrap64 ((wrap64 ((wrap64 (a + b)) + c)) + e) = a + b + c + e := by unfold wrap64; omega
    rw [this, wrap_id _ (by omega) (by omega), g2]; simp
  refine ⟨K1 + K2 + K3 + K4 + 1, ?_⟩
  rw [tipstafflaw25_SliceOne.f, hkn _ (by omega), Option.bind_some, hmade _ (by omega), Option.bind_some, mod_val a3 1000 (i64_of h3) (by omega) (by omega), Option.bind_some, if_pos (by omega), hsh _ (by omega), Option.bind_some, ← hs]
  dsimp only
  rw [if_pos rfl, show (([a, b, c, e].length : Nat) : Int) = 4 from rfl, if_pos rfl, if_pos (by decide), if_pos (by decide), if_pos (by decide), if_pos (by decide), show rd [a, b, c, e] 0 = a from rfl, show rd [a, b, c, e] 1 = b from rfl, show rd [a, b, c, e] 2 = c from rfl, show rd [a, b, c, e] 3 = e from rfl, hsum]
  rw [tipstafflaw25_SliceOne.j0, if_neg (by decide)]
  exact hl0 _ (by omega)

end Go.Proofs.Ythcgcfjcjikjmaa.Pure
