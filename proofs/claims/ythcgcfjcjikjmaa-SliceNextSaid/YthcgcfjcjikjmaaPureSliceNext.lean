/- From a tick to Next there are fewer ticks than Wait slots have; the car belongs to the domain at Next, and at no slot's first tick before. -/
import Derived.Test.YthcgcfjcjikjmaaS12
import Derived.Test.YthcgcfjcjikjmaaMade25
namespace Go.Proofs.Ythcgcfjcjikjmaa.Pure
open Go.RowKit Go.Proofs.Ythcgcfjcjikjmaa.S Go.Proofs.YthcgcfjcjikjmaaW.PrintWords Go.Proofs.YthcgcfjcjikjmaaW.PrintLast Go.Proofs.YthcgcfjcjikjmaaW.PrintMore
set_option linter.unusedVariables false
set_option linter.unusedSimpArgs false

theorem known_val : Ev (fun k => tipstafflaw25_SliceKnown.f k) true := ⟨100, fun k hk => at_rounds tipstafflaw25_SliceKnown.mono hk (by decide +kernel)⟩

/-! ### the slots are in order -/
theorem pickL_sorted (p : Int → Bool) (plus : Int) : ∀ d i, List.Pairwise (· < ·) (pickL p plus d i)
  | 0, _ => by simp [pickL]
  | d + 1, i => by
    rw [pickL]
    split
    · exact List.pairwise_cons.2 ⟨fun y hy => by have := (mem_pickL p plus d (i + 1) y).1 hy; omega, pickL_sorted p plus d (i + 1)⟩
    · exact pickL_sorted p plus d (i + 1)

theorem slots_step (R : List (List Int)) (c d : Int) (j : Nat) (hj : 1 ≤ j) (hj' : j < (slotsL R c d).length) : rd (slotsL R c d) ((j : Int) - 1) < rd (slotsL R c d) (j : Int) := by
  rw [show ((j : Int) - 1) = ((j - 1 : Nat) : Int) by omega, rd_nat _ _ (by omega), rd_nat _ _ hj']
  exact List.pairwise_iff_getElem.1 (pickL_sorted _ _ _ _) (j - 1) j _ _ (by omega)

theorem slots_rd (R : List (List Int)) (c d : Int) (j : Nat) (hj' : j < (slotsL R c d).length) : rd (slotsL R c d) (j : Int) ∈ slotsL R c d := by
  rw [rd_nat _ _ hj']; exact List.getElem_mem _

/-! ### what Wait is at least, and at most -/
theorem wait_ge (ks : List Int) (hk : ∀ j : Nat, j < ks.length → 0 ≤ rd ks j ∧ rd ks j ≤ 24) : ∀ (e : Nat) (m : Int) (i : Nat), 1 ≤ i → i + e ≤ ks.length → m ≤ 100 →
    m ≤ waitL ks e m i ∧ waitL ks e m i ≤ 100 ∧ ∀ j : Nat, i ≤ j → j < i + e → rd ks j - rd ks ((j : Int) - 1) ≤ waitL ks e m i
  | 0, m, i, h1, h2, h3 => ⟨by rw [waitL]; exact Int.le_refl _, by rw [waitL]; exact h3, fun j a b => by omega⟩
  | e + 1, m, i, h1, h2, h3 => by
    have ha := hk i (by omega)
    have hb := hk (i - 1) (by omega)
    rw [show ((i - 1 : Nat) : Int) = (i : Int) - 1 by omega] at hb
    have hw : wrap64 (rd ks (i : Int) - rd ks ((i : Int) - 1)) = rd ks (i : Int) - rd ks ((i : Int) - 1) := wrap_id _ (by omega) (by omega)
    have hm : m ≤ mx m (rd ks (i : Int) - rd ks ((i : Int) - 1)) ∧ rd ks (i : Int) - rd ks ((i : Int) - 1) ≤ mx m (rd ks (i : Int) - rd ks ((i : Int) - 1)) ∧ mx m (rd ks (i : Int) - rd ks ((i : Int) - 1)) ≤ 100 := by
      unfold mx; split <;> omega
    obtain ⟨a, b, c⟩ := wait_ge ks hk e (mx m (rd ks (i : Int) - rd ks ((i : Int) - 1))) (i + 1) (by omega) (by omega) hm.2.2
    rw [waitL, hw]
    refine ⟨Int.le_trans hm.1 a, b, fun j h4 h5 => ?_⟩
    by_cases hji : j = i
    · subst hji; exact Int.le_trans hm.2.1 a
    · exact c j (by omega) (by omega)

/-- What Wait hands back for a car that belongs to the domain now and then. -/
def wv (R : List (List Int)) (c d : Int) : Int := waitL (slotsL R c d) ((slotsL R c d).length - 1) (wrap64 ((wrap64 ((rd (slotsL R c d) 0) + ((rd_L1 R 0).length : Int))) - (rd (slotsL R c d) (((slotsL R c d).length : Int) - 1)))) 1

theorem wv_ge (R : List (List Int)) (hR : OkR R) (c d : Int) (hne : (slotsL R c d).length ≠ 0) : wv R c d ≤ 100 ∧ rd (slotsL R c d) 0 + ((rd_L1 R 0).length : Int) - rd (slotsL R c d) (((slotsL R c d).length : Int) - 1) ≤ wv R c d ∧
    ∀ j : Nat, 1 ≤ j → j < (slotsL R c d).length → rd (slotsL R c d) j - rd (slotsL R c d) ((j : Int) - 1) ≤ wv R c d := by
  obtain ⟨h1, h2, h3, h4, h5⟩ := hR
  have hk : ∀ j : Nat, j < (slotsL R c d).length → 0 ≤ rd (slotsL R c d) j ∧ rd (slotsL R c d) j ≤ 24 := fun j hj => by
    have := (mem_slotsL R c d _).1 (slots_rd R c d j hj); omega
  have ha := hk 0 (by omega)
  have hb := hk ((slotsL R c d).length - 1) (by omega)
  rw [show (((slotsL R c d).length - 1 : Nat) : Int) = ((slotsL R c d).length : Int) - 1 by omega] at hb
  rw [show ((0 : Nat) : Int) = 0 from rfl] at ha
  have e1 := wrap_id (rd (slotsL R c d) 0 + ((rd_L1 R 0).length : Int)) (by omega) (by omega)
  have e2 := wrap_id (rd (slotsL R c d) 0 + ((rd_L1 R 0).length : Int) - rd (slotsL R c d) (((slotsL R c d).length : Int) - 1)) (by omega) (by omega)
  have := wait_ge _ hk ((slotsL R c d).length - 1) (rd (slotsL R c d) 0 + ((rd_L1 R 0).length : Int) - rd (slotsL R c d) (((slotsL R c d).length : Int) - 1)) 1 (by omega) (by omega) (by omega)
  unfold wv
  rw [e1, e2]
  exact ⟨this.2.1, this.1, fun j a b => this.2.2 j a (by omega)⟩

/-- The first of the car's slots from a slot on lies less than Wait slots behind it. -/
theorem wait_reach (R : List (List Int)) (hR : OkR R) (c d f s : Int) (hf : 0 ≤ f) (hs : seekL (mine R c d) (rd_L1 R 0).length f = some s) (hne : (slotsL R c d).length ≠ 0) : s - f + 1 ≤ wv R c d := by
  obtain ⟨w1, w2, w3⟩ := wv_ge R hR c d hne
  obtain ⟨s1, s2, s3, s4⟩ := seek_some _ _ _ _ hs
  have h3 := hR.2.2.1
  have hn : ((rd_L1 R 0).length : Int) ≠ 0 := by omega
  have hm := (mem_slots_mod R hR c d s).2 s3
  -- a slot that is the car's lies before f
  have far : ∀ g : Int, 1 ≤ g → mine R c d (s - g) = true → s - f + 1 ≤ g := fun g hg hg' => by
    by_cases h : f ≤ s - g
    · rw [s4 (s - g) h (by omega)] at hg'; simp at hg'
    · omega
  obtain ⟨i, hi, hi'⟩ := List.mem_iff_getElem.1 hm
  have hri : rd (slotsL R c d) (i : Int) = s % ((rd_L1 R 0).length : Int) := by rw [rd_nat _ _ hi]; exact hi'
  have hsd := Int.mul_ediv_add_emod s ((rd_L1 R 0).length : Int)
  by_cases h0 : i = 0
  · subst h0
    have hri' : rd (slotsL R c d) 0 = s % ((rd_L1 R 0).length : Int) := hri
    have hlast := slots_rd R c d ((slotsL R c d).length - 1) (by omega)
    rw [show (((slotsL R c d).length - 1 : Nat) : Int) = ((slotsL R c d).length : Int) - 1 by omega] at hlast
    have hl2 := (mem_slotsL R c d _).1 hlast
    have hl3 := (mem_slotsL R c d _).1 hm
    refine Int.le_trans (far _ ?_ ?_) w2
    · rw [hri']; omega
    · rw [← mem_slots_mod R hR]
      have e : (s - (rd (slotsL R c d) 0 + ((rd_L1 R 0).length : Int) - rd (slotsL R c d) (((slotsL R c d).length : Int) - 1))) = rd (slotsL R c d) (((slotsL R c d).length : Int) - 1) + ((rd_L1 R 0).length : Int) * (s / ((rd_L1 R 0).length : Int) - 1) := by
        rw [hri', Int.mul_sub, Int.mul_one]; omega
      rw [e, Int.add_mul_emod_self_left, Int.emod_eq_of_lt hl2.1 hl2.2.1]; exact hlast
  · have hp := slots_rd R c d (i - 1) (by omega)
    rw [show ((i - 1 : Nat) : Int) = (i : Int) - 1 by omega] at hp
    have hp2 := (mem_slotsL R c d _).1 hp
    have hlt := slots_step R c d i (by omega) hi
    refine Int.le_trans (far _ ?_ ?_) (w3 i (by omega) hi)
    · omega
    · rw [← mem_slots_mod R hR]
      have e : (s - (rd (slotsL R c d) (i : Int) - rd (slotsL R c d) ((i : Int) - 1))) = rd (slotsL R c d) ((i : Int) - 1) + ((rd_L1 R 0).length : Int) * (s / ((rd_L1 R 0).length : Int)) := by
        rw [hri]; omega
      rw [e, Int.add_mul_emod_self_left, Int.emod_eq_of_lt hp2.1 hp2.2.1]; exact hp

/-! ### the ticks up to Next -/
theorem domF_ok (R : List (List Int)) (hck : (checkF R).1 = 0) (l c t : Int) (hl : 1 ≤ l ∧ l ≤ 2000000) (hc : 1 ≤ c ∧ c ≤ R.length) (ht : 0 ≤ t ∧ t ≤ 1099511627776) : domF R l c t = (at_ R (t / l) (c - 1), 0) := by
  have : askF R (okL l && okC R c && okT t) = 0 := by
    unfold askF
    rw [if_pos hck, okL_iff.2 hl, okC_iff.2 hc, okT_iff.2 ht]; rfl
  unfold domF
  rw [if_pos this]

theorem ticks (R : List (List Int)) (hck : (checkF R).1 = 0) (l c d s : Int) (hl : 1 ≤ l ∧ l ≤ 20) (hc : 1 ≤ c ∧ c ≤ R.length) (hs : mine R c d s = true) (hs' : s ≤ 100000) (f : Int) (hfs : 0 ≤ f) (hno : ∀ x, f ≤ x → x < s → mine R c d x = false) :
    ∀ (e : Nat) (t : Int), 0 ≤ t → t + e = s * l + 1 → (f - 1) * l < t → Ev (fun k => tipstafflaw25_SliceNext.l0 k true R c d l (s * l) t) true
  | 0, t, h0, h1, h2 => (Ev.const _).step (fun k => by rw [tipstafflaw25_SliceNext.l0, if_neg (by omega)])
  | e + 1, t, h0, h1, h2 => by
    obtain ⟨K1, ih⟩ := ticks R hck l c d s hl hc hs hs' f hfs hno e (t + 1) (by omega) (by omega) (by omega)
    have hsl : s * l ≤ 100000 * 20 := by
      by_cases hneg : 0 ≤ s
      · exact Int.mul_le_mul hs' hl.2 (by omega) (by omega)
      · have := Int.mul_le_mul_of_nonneg_right (show s ≤ 0 by omega) (show 0 ≤ l by omega); omega
    obtain ⟨K2, hd⟩ := domain_val R l c t
    rw [domF_ok R hck l c t (by omega) hc (by omega)] at hd
    dsimp only at ih hd
    have hdm := Int.mul_ediv_add_emod t l
    have hcm : l * (t / l) = t / l * l := Int.mul_comm _ _
    have e2 := Int.emod_nonneg t (show l ≠ 0 by omega)
    have e3 := Int.emod_lt_of_pos t (show 0 < l by omega)
    refine ⟨K1 + K2 + 1, fun k hk => ?_⟩
    obtain ⟨m, rfl, hm⟩ := succ_of (show K1 + K2 < k by omega)
    dsimp only
    rw [tipstafflaw25_SliceNext.l0, if_pos (by omega), hd m (by omega), Option.bind_some, if_pos rfl, if_neg (show ¬ l = 0 by omega), Int.tmod_eq_emod_of_nonneg h0, wrap_id (t + 1) (by omega) (by omega)]
    dsimp only
    by_cases hz : t % l = 0
    · rw [if_pos hz]
      have ht : t = t / l * l := by omega
      by_cases hts : t = s * l
      · have hq : t / l = s := by rw [hts]; exact Int.mul_ediv_cancel _ (by omega)
        have ha : at_ R s (c - 1) == d := by unfold mine at hs; exact hs
        rw [hq, show (at_ R s (c - 1) == d) = true from ha, show (t == s * l) = true by simpa using hts, if_neg (by decide), ih m (by omega)]
      · have hq : t / l < s := by
          apply Int.lt_of_mul_lt_mul_right (a := l) _ (by omega)
          omega
        have hq2 : f ≤ t / l := by
          have : f - 1 < t / l := by
            apply Int.lt_of_mul_lt_mul_right (a := l) _ (by omega)
            omega
          omega
        have ha := hno (t / l) hq2 hq
        unfold mine at ha
        rw [ha, show (t == s * l) = false by simpa using hts, if_neg (by decide), ih m (by omega)]
    · rw [if_neg hz]
      have hts : ¬ t = s * l := fun h => hz (by rw [h]; exact Int.mul_emod_left _ _)
      rw [show (t == s * l) = false by simpa using hts, if_neg (by decide), ih m (by omega)]

theorem SliceNext : tipstafflaw25_SliceNext.Pure := by
  intro a0 a1 l2 a3 a4 h0 h1 _ _ hl h3 h4
  obtain ⟨R, ⟨K1, hmade⟩, hck, hR, hR4, hR6⟩ := made_val a0 a1 (i64_of h0) (i64_of h1) l2 (fun x hx => i64_of (hl x hx))
  obtain ⟨K2, hkn⟩ := known_val
  have hR' := hR
  obtain ⟨r1, r2, r3, r4, r5⟩ := hR'
  obtain ⟨g, hg⟩ : ∃ g, g = a3 % 1048576 := ⟨_, rfl⟩
  obtain ⟨t, ht⟩ : ∃ t, t = a4 % 5000 := ⟨_, rfl⟩
  have hg0 : 0 ≤ g ∧ g < 1048576 := by omega
  have ht0 : 0 ≤ t ∧ t < 5000 := by omega
  obtain ⟨l, hl'⟩ : ∃ l, l = 1 + (g / 32) % 20 := ⟨_, rfl⟩
  obtain ⟨c, hc⟩ : ∃ c, c = 1 + g % (R.length : Int) := ⟨_, rfl⟩
  obtain ⟨d, hd⟩ : ∃ d, d = (g / 8) % 4 := ⟨_, rfl⟩
  have hlb : 1 ≤ l ∧ l ≤ 20 := by omega
  have hcb : 1 ≤ c ∧ c ≤ R.length := by
    have e1 := Int.emod_nonneg g (show (R.length : Int) ≠ 0 by omega)
    have e2 := Int.emod_lt_of_pos g (show 0 < (R.length : Int) by omega)
    omega
  have hdb : 0 ≤ d ∧ d ≤ 3 := by omega
  have ask1' : askF R (okL l && okC R c && okD d && okT t) = 0 := by
    unfold askF
    rw [if_pos hck, okL_iff.2 (by omega), okC_iff.2 hcb, okT_iff.2 (by omega), okD_iff.2 hdb]; rfl
  have ask2' : askF R (okC R c && okD d) = 0 := by
    unfold askF
    rw [if_pos hck, okC_iff.2 hcb, okD_iff.2 hdb]; rfl
  obtain ⟨K3, hnx⟩ := next_val R l c d t
  obtain ⟨K4, hwt⟩ := wait_val R c d
  dsimp only at hmade hkn hnx hwt
  have start : ∀ k, K1 + K2 + K3 + K4 ≤ k → tipstafflaw25_SliceNext.f k a0 a1 l2 a3 a4 = (if (nextF R l c d t).2 = 6 then (tipstafflaw25_SliceNext.j0 k t true R c d l (nextF R l c d t).1 (nextF R l c d t).2 (waitF R c d).1 (waitF R c d).2 true) else (tipstafflaw25_SliceNext.j0 k t true R c d l (nextF R l c d t).1 (nextF R l c d t).2 (waitF R c d).1 (waitF R c d).2 ((waitF R c d).2 == 6))) := by
    intro k hk
    have q1 : Int.tdiv g 32 = g / 32 := Int.tdiv_eq_ediv_of_nonneg hg0.1
    have q2 : Int.tdiv g 8 = g / 8 := Int.tdiv_eq_ediv_of_nonneg hg0.1
    have q3 : Int.tmod g (R.length : Int) = g % (R.length : Int) := Int.tmod_eq_emod_of_nonneg hg0.1
    have q4 : wrap64 (g / 32) = g / 32 := wrap_id _ (by omega) (by omega)
    have q5 : wrap64 (g / 8) = g / 8 := wrap_id _ (by omega) (by omega)
    have q6 : Int.tmod (g / 32) 20 = g / 32 % 20 := Int.tmod_eq_emod_of_nonneg (by omega)
    have q7 : Int.tmod (g / 8) 4 = g / 8 % 4 := Int.tmod_eq_emod_of_nonneg (by omega)
    have q8 : wrap64 (1 + g / 32 % 20) = l := by rw [wrap_id _ (by omega) (by omega), hl']
    have q9 : wrap64 (1 + g % (R.length : Int)) = c := by
      rw [← hc]; exact wrap_id _ (by omega) (by omega)
    rw [tipstafflaw25_SliceNext.f, hkn k (by omega), Option.bind_some, hmade k (by omega), Option.bind_some, mod_val a3 1048576 (i64_of h3) (by omega) (by omega), Option.bind_some, if_neg (by omega), mod_val a4 5000 (i64_of h4) (by omega) (by omega), Option.bind_some, ← hg, ← ht, q1, q2, q3, q4, q5, q6, q7, q8, q9, ← hd, hnx k (by omega), Option.bind_some, hwt k (by omega), Option.bind_some]
  by_cases hz : (slotsL R c d).length = 0
  · have hz' : slotsL R c d = [] := List.eq_nil_of_length_eq_zero hz
    have hn : seekL (mine R c d) (rd_L1 R 0).length ((t + l - 1) / l) = none := by
      cases hs : seekL (mine R c d) (rd_L1 R 0).length ((t + l - 1) / l) with
      | none => rfl
      | some r =>
        have := (mem_slots_mod R hR c d r).2 (seek_some _ _ _ _ hs).2.2.1
        rw [hz'] at this; simp at this
    have e1 : nextF R l c d t = (0, 6) := by unfold nextF; rw [if_pos ask1', hn]
    have e2 : waitF R c d = (0, 6) := by unfold waitF; rw [if_pos ask2', if_pos hz]
    have hrow := (r5 (c - 1) (by omega) (by omega)).1
    obtain ⟨K5, hh⟩ := has_val (rd_L1 R (c - 1)) (by omega) d
    dsimp only at hh
    refine ⟨K1 + K2 + K3 + K4 + K5 + 1, ?_⟩
    rw [start _ (by omega), e1, e2, if_pos rfl, tipstafflaw25_SliceNext.j0, if_pos rfl, if_pos rfl, if_pos rfl, wrap_id (c - 1) (by omega) (by omega), if_pos (by omega), if_pos (by omega), hh _ (by omega), Option.bind_some]
    have : ¬ d ∈ rd_L1 R (c - 1) := fun hm => by
      obtain ⟨j, hj, hj'⟩ := List.mem_iff_getElem.1 hm
      have : (j : Int) ∈ slotsL R c d := (mem_slotsL R c d j).2 ⟨by omega, by omega, by rw [at_small R _ _ (by omega) (by omega), rd_nat _ _ hj]; exact hj'⟩
      rw [hz'] at this; simp at this
    rw [decide_eq_false this]; rfl
  · obtain ⟨x, hx⟩ := List.exists_mem_of_length_pos (show 0 < (slotsL R c d).length by omega)
    obtain ⟨s, hs⟩ := seek_full R hR c d ((t + l - 1) / l) x hx
    obtain ⟨s1, s2, s3, s4⟩ := seek_some _ _ _ _ hs
    have f1 := Int.mul_ediv_add_emod (t + l - 1) l
    have f2 := Int.emod_nonneg (t + l - 1) (show l ≠ 0 by omega)
    have f3 := Int.emod_lt_of_pos (t + l - 1) (show 0 < l by omega)
    obtain ⟨f, hf⟩ : ∃ f, f = (t + l - 1) / l := ⟨_, rfl⟩
    rw [← hf] at f1 hs s1 s2 s4
    have hf0 : 0 ≤ f := by rw [hf]; exact Int.ediv_nonneg (by omega) (by omega)
    have f4 : l * f = f * l := Int.mul_comm _ _
    have f5 : (f - 1) * l = f * l - l := by rw [Int.sub_mul, Int.one_mul]
    have f6 : (f - 1) * l < t := by omega
    have f7 : f ≤ 5020 := by
      have : f * 1 ≤ f * l := Int.mul_le_mul_of_nonneg_left hlb.1 hf0
      omega
    have hsb : s ≤ 5100 := by omega
    have g1 : f * l ≤ s * l := Int.mul_le_mul_of_nonneg_right s1 (by omega)
    have hsl : s * l ≤ 5100 * 20 := Int.mul_le_mul hsb hlb.2 (by omega) (by omega)
    have hw := wait_reach R hR c d f s hf0 hs hz
    have hwb := (wv_ge R hR c d hz).1
    have g2 : (s - f + 1) * l ≤ wv R c d * l := Int.mul_le_mul_of_nonneg_right hw (by omega)
    have g3 : (s - f + 1) * l = s * l - f * l + l := by rw [Int.add_mul, Int.sub_mul, Int.one_mul]
    have g4 : wv R c d * l ≤ 100 * 20 := by
      have a1 : wv R c d * l ≤ 100 * l := Int.mul_le_mul_of_nonneg_right hwb (by omega)
      omega
    have e1 : nextF R l c d t = (s * l, 0) := by unfold nextF; rw [if_pos ask1', ← hf, hs]; dsimp only; rw [wrap_id _ (by omega) (by omega)]
    have e2 : waitF R c d = (wv R c d, 0) := by unfold waitF; rw [if_pos ask2', if_neg hz]; rfl
    obtain ⟨K5, hh⟩ := ticks R hck l c d s hlb hcb s3 (by omega) f hf0 s4 (s * l + 1 - t).toNat t ht0.1 (by omega) f6
    dsimp only at hh
    refine ⟨K1 + K2 + K3 + K4 + K5 + 1 + 1, ?_⟩
    rw [start _ (by omega), e1, e2]
    dsimp only
    rw [if_neg (by decide)]
    rw [tipstafflaw25_SliceNext.j0, if_neg (by decide), if_pos rfl, if_pos rfl, if_neg (show ¬ s * l < t by omega), if_neg (show ¬ l = 0 by omega), Int.tmod_eq_emod_of_nonneg (show 0 ≤ s * l by omega), if_pos (Int.mul_emod_left _ _), wrap_id (s * l - t) (by omega) (by omega), wrap_id (wv R c d * l) (by omega) (by omega), decide_eq_false (show ¬ s * l - t ≥ wv R c d * l by omega)]
    rw [tipstafflaw25_SliceNext.j1, if_neg (by decide), hh _ (by omega)]

end Go.Proofs.Ythcgcfjcjikjmaa.Pure
