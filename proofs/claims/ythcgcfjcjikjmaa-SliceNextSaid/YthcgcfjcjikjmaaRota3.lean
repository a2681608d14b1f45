/- Slots, Next, Wait: the program's are the reference's. -/
import Derived.Test.YthcgcfjcjikjmaaRota2
namespace Go.Proofs.Ythcgcfjcjikjmaa.Pure
open Go.RowKit Go.Proofs.Ythcgcfjcjikjmaa.S Go.Proofs.YthcgcfjcjikjmaaW.PrintWords Go.Proofs.YthcgcfjcjikjmaaW.PrintLast
set_option linter.unusedVariables false
set_option linter.unusedSimpArgs false

/-- The slots of a cycle in which a car belongs to a domain. -/
def slotsL (R : List (List Int)) (c d : Int) : List Int := pickL (fun j => at_ R j (c - 1) == d) 0 (rd_L1 R 0).length 0
def slotsF (R : List (List Int)) (c d : Int) : List Int × Int := if askF R (okC R c && okD d) = 0 then (slotsL R c d, 0) else ([], askF R (okC R c && okD d))

theorem slotsL_len (R : List (List Int)) (c d : Int) : (slotsL R c d).length ≤ (rd_L1 R 0).length := pickL_len _ _ _ _
theorem mem_slotsL (R : List (List Int)) (c d x : Int) : x ∈ slotsL R c d ↔ (0 ≤ x ∧ x < (rd_L1 R 0).length ∧ at_ R x (c - 1) = d) := by
  unfold slotsL
  rw [mem_pickL]; simp

theorem slots_val0 (R : List (List Int)) (hR : OkR R) (c d : Int) (hc : 1 ≤ c) (hc' : c ≤ R.length) : slice_slots.f R c d = some (slotsL R c d) := by
  obtain ⟨h1, h2, h3, h4, h5⟩ := hR
  have hl := (h5 (c - 1) (by omega) (by omega)).1
  unfold slice_slots.f slotsL
  rw [if_pos ⟨hc, hc'⟩, if_pos (by omega), hl, where_pick _ (fun j => at_ R j (c - 1) == d) 0 (by omega) _ 0 (by omega) (by omega) (fun j j0 j1 => ?_)]
  unfold isD
  rw [if_pos ⟨j0, by omega⟩, at_small R _ _ j0 (by omega)]

theorem slots_ref_loop (R : List (List Int)) (hR : OkR R) (c d : Int) (hc : 1 ≤ c) (hc' : c ≤ R.length) : ∀ (e i : Nat), i + e = (rd_L1 R 0).length → ∀ acc : List Int, acc.length ≤ i →
    Ev (fun k => tipstaffref25_slots.l0 k R c d acc (i : Int)) (acc ++ pickL (fun j => at_ R j (c - 1) == d) 0 e i) := by
  have hR' := hR
  obtain ⟨h1, h2, h3, h4, h5⟩ := hR'
  intro e
  induction e with
  | zero =>
    intro i hi acc ha
    refine (Ev.const _).step (fun k => ?_)
    rw [tipstaffref25_slots.l0, if_pos (by omega), if_neg (by omega), pickL, List.append_nil]
  | succ e ih =>
    intro i hi acc ha
    rw [pickL]
    by_cases hp : at_ R i (c - 1) = d
    · rw [if_pos (by simpa using hp), show acc ++ ((i : Int) + 0) :: pickL (fun j => at_ R j (c - 1) == d) 0 e ((i : Int) + 1) = (acc ++ [(i : Int)]) ++ pickL (fun j => at_ R j (c - 1) == d) 0 e ((i + 1 : Nat) : Int) by simp]
      refine (ih (i + 1) (by omega) (acc ++ [(i : Int)]) (by simp; omega)).step (fun k => ?_)
      rw [tipstaffref25_slots.l0, if_pos (by omega), if_pos (by omega), of_val R hR _ _ (by omega) hc hc', Option.bind_some, if_pos hp, if_pos (by omega), wrap_succ i (by omega)]
    · rw [if_neg (by simpa using hp)]
      refine (ih (i + 1) (by omega) acc (by omega)).step (fun k => ?_)
      rw [tipstaffref25_slots.l0, if_pos (by omega), if_pos (by omega), of_val R hR _ _ (by omega) hc hc', Option.bind_some, if_neg hp, wrap_succ i (by omega)]

theorem slots_ref0 (R : List (List Int)) (hR : OkR R) (c d : Int) (hc : 1 ≤ c) (hc' : c ≤ R.length) : Ev (fun k => tipstaffref25_slots.f k R c d) (slotsL R c d) :=
  slots_ref_loop R hR c d hc hc' _ 0 (Nat.zero_add _) [] (by simp)

theorem slots_val (R : List (List Int)) (c d : Int) : Ev (fun k => slice_Slots.f k R c d) (slotsF R c d) := by
  obtain ⟨K, h⟩ := valid_val R [okC R c, okD d] (by simp)
  refine ⟨K, fun k hk => ?_⟩
  dsimp only at h ⊢
  rw [slice_Slots.f, car_val, Option.bind_some, dom_val, Option.bind_some]
  show (slice_valid.f k R [okC R c, okD d]).bind _ = _
  rw [h k hk, Option.bind_some, show ([okC R c, okD d].all id) = (okC R c && okD d) by simp]
  unfold slotsF
  by_cases h0 : askF R (okC R c && okD d) = 0
  · rw [if_pos h0, if_pos h0]
    obtain ⟨hR, hb⟩ := askF_ok h0
    simp only [Bool.and_eq_true, okC_iff] at hb
    rw [slots_val0 R hR c d hb.1.1 hb.1.2]; rfl
  · rw [if_neg h0, if_neg h0]

theorem ask1 (R : List (List Int)) (c d : Int) : (okL 1 && okC R c && okT 0 && okD d) = (okC R c && okD d) := by
  rw [show okL 1 = true from rfl, show okT 0 = true from rfl, Bool.true_and, Bool.and_true]

theorem slots_ref (R : List (List Int)) (c d : Int) : Ev (fun k => tipstaffref25_Slots.f k R c d) (slotsF R c d) := by
  obtain ⟨K, h⟩ := ask_val R 1 c 0 d
  dsimp only at h
  rw [ask1] at h
  unfold slotsF
  by_cases h0 : askF R (okC R c && okD d) = 0
  · obtain ⟨hR, hb⟩ := askF_ok h0
    simp only [Bool.and_eq_true, okC_iff] at hb
    obtain ⟨K', h'⟩ := slots_ref0 R hR c d hb.1.1 hb.1.2
    refine ⟨K + K', fun k hk => ?_⟩
    dsimp only at h' ⊢
    rw [tipstaffref25_Slots.f, h k (by omega), Option.bind_some, if_pos h0, if_pos h0, h' k (by omega)]; rfl
  · refine ⟨K, fun k hk => ?_⟩
    dsimp only
    rw [tipstaffref25_Slots.f, h k (by omega), Option.bind_some, if_neg h0, if_neg h0]

/-! ### Next -/
def seekL (p : Int → Bool) : Nat → Int → Option Int
  | 0, _ => none
  | d + 1, s => if p s then some s else seekL p d (s + 1)
def mine (R : List (List Int)) (c d : Int) : Int → Bool := fun s => at_ R s (c - 1) == d
def nextF (R : List (List Int)) (l c d t : Int) : Int × Int :=
  if askF R (okL l && okC R c && okD d && okT t) = 0 then (match seekL (mine R c d) (rd_L1 R 0).length ((t + l - 1) / l) with | some s => (wrap64 (s * l), 0) | none => (0, 6))
  else (0, askF R (okL l && okC R c && okD d && okT t))

theorem seek_some (p : Int → Bool) : ∀ d s r, seekL p d s = some r → s ≤ r ∧ r < s + d ∧ p r = true ∧ ∀ x, s ≤ x → x < r → p x = false
  | 0, s, r, h => by simp [seekL] at h
  | d + 1, s, r, h => by
    rw [seekL] at h
    by_cases hp : p s = true
    · rw [if_pos hp] at h
      have : s = r := by simpa using h
      subst this
      exact ⟨by omega, by omega, hp, fun x h1 h2 => by omega⟩
    · rw [if_neg hp] at h
      obtain ⟨a, b, c, e⟩ := seek_some p d (s + 1) r h
      refine ⟨by omega, by omega, c, fun x h1 h2 => ?_⟩
      by_cases hx : x = s
      · rw [hx]; simpa using hp
      · exact e x (by omega) h2
theorem seek_none (p : Int → Bool) : ∀ d s, seekL p d s = none → ∀ x, s ≤ x → x < s + d → p x = false
  | 0, s, _, x, h1, h2 => by omega
  | d + 1, s, h, x, h1, h2 => by
    rw [seekL] at h
    by_cases hp : p s = true
    · rw [if_pos hp] at h; simp at h
    · rw [if_neg hp] at h
      by_cases hx : x = s
      · rw [hx]; simpa using hp
      · exact seek_none p d (s + 1) h x (by omega) (by omega)
theorem seek_is (p : Int → Bool) (d : Nat) (s : Int) (x : Int) (h1 : s ≤ x) (h2 : x < s + d) (hp : p x = true) : ∃ r, seekL p d s = some r := by
  cases h : seekL p d s with
  | some r => exact ⟨r, rfl⟩
  | none => rw [seek_none p d s h x h1 h2] at hp; simp at hp

theorem at_mod (R : List (List Int)) (hR : OkR R) (s i : Int) : at_ R (s % (rd_L1 R 0).length) i = at_ R s i := by
  unfold at_; rw [Int.emod_emod_of_dvd _ (Int.dvd_refl _)]

theorem mem_slots_mod (R : List (List Int)) (hR : OkR R) (c d s : Int) : s % ((rd_L1 R 0).length : Int) ∈ slotsL R c d ↔ mine R c d s = true := by
  have h3 := hR.2.2.1
  have e1 := Int.emod_nonneg s (show ((rd_L1 R 0).length : Int) ≠ 0 by omega)
  have e2 := Int.emod_lt_of_pos s (show 0 < ((rd_L1 R 0).length : Int) by omega)
  rw [mem_slotsL, at_mod R hR]; unfold mine; simp [e1, e2]

theorem go_seek (R : List (List Int)) (hR : OkR R) (c d : Int) : ∀ (e : Nat) (s r : Int), 0 ≤ s → s + e ≤ 1125899906842624 → seekL (mine R c d) e s = some r → Ev (fun k => nextGo (slotsL R c d) ((rd_L1 R 0).length : Int) k s) r
  | 0, s, r, _, _, h => by simp [seekL] at h
  | e + 1, s, r, h0, h1, h => by
    rw [seekL] at h
    by_cases hp : mine R c d s = true
    · rw [if_pos hp] at h
      have : s = r := by simpa using h
      subst this
      refine (Ev.const _).step (fun k => ?_)
      rw [nextGo, if_pos ⟨h0, by omega⟩, if_pos ((mem_slots_mod R hR c d s).2 hp)]
    · rw [if_neg hp] at h
      refine (go_seek R hR c d e (s + 1) r (by omega) (by omega) h).step (fun k => ?_)
      rw [nextGo, if_pos ⟨h0, by omega⟩, if_neg (fun hm => hp ((mem_slots_mod R hR c d s).1 hm))]

theorem ref_seek (R : List (List Int)) (hR : OkR R) (l c d f : Int) (hc : 1 ≤ c) (hc' : c ≤ R.length) (hf : 0 ≤ f) (hf' : f ≤ 1125899906842000) : ∀ (e : Nat) (s : Int), f ≤ s → s + e = f + (rd_L1 R 0).length →
    Ev (fun k => tipstaffref25_Next.l0 k R l c d f s) (match seekL (mine R c d) e s with | some s => (wrap64 (s * l), 0) | none => (0, 6))
  | 0, s, h0, h1 => by
    obtain ⟨h1', h2, h3, h4, h5⟩ := hR
    refine (Ev.const _).step (fun k => ?_)
    rw [tipstaffref25_Next.l0, if_pos (by omega), wrap_id (f + _) (by omega) (by omega), if_neg (by omega)]; rfl
  | e + 1, s, h0, h1 => by
    have hR' := hR
    obtain ⟨h1', h2, h3, h4, h5⟩ := hR'
    rw [seekL]
    by_cases hp : at_ R s (c - 1) = d
    · rw [if_pos (show mine R c d s = true by unfold mine; simpa using hp)]
      refine (Ev.const _).step (fun k => ?_)
      rw [tipstaffref25_Next.l0, if_pos (by omega), wrap_id (f + _) (by omega) (by omega), if_pos (by omega), of_val R hR _ _ (by omega) hc hc', Option.bind_some, if_pos hp]
    · rw [if_neg (show ¬ mine R c d s = true by unfold mine; simpa using hp)]
      refine (ref_seek R hR l c d f hc hc' hf hf' e (s + 1) (by omega) (by omega)).step (fun k => ?_)
      rw [tipstaffref25_Next.l0, if_pos (by omega), wrap_id (f + _) (by omega) (by omega), if_pos (by omega), of_val R hR _ _ (by omega) hc hc', Option.bind_some, if_neg hp, wrap_id (s + 1) (by omega) (by omega)]

/-- The first slot at or behind a tick. -/
theorem first_facts (l t : Int) (h1 : 1 ≤ l) (h2 : 0 ≤ t) (h3 : t ≤ 1099511627776) : 0 ≤ (t + l - 1) / l ∧ (t + l - 1) / l ≤ 1099511627777 ∧ t ≤ (t + l - 1) / l * l ∧ ((t + l - 1) / l - 1) * l < t ∨ 0 ≤ (t + l - 1) / l ∧ (t + l - 1) / l ≤ 1099511627777 ∧ t ≤ (t + l - 1) / l * l ∧ t + l - 1 < ((t + l - 1) / l + 1) * l := by
  right
  have e1 := Int.mul_ediv_add_emod (t + l - 1) l
  have e2 := Int.emod_nonneg (t + l - 1) (show l ≠ 0 by omega)
  have e3 := Int.emod_lt_of_pos (t + l - 1) (show 0 < l by omega)
  have e4 : l * ((t + l - 1) / l) = (t + l - 1) / l * l := Int.mul_comm _ _
  have e5 : ((t + l - 1) / l + 1) * l = (t + l - 1) / l * l + l := by rw [Int.add_mul, Int.one_mul]
  have e6 : 0 ≤ (t + l - 1) / l := Int.ediv_nonneg (by omega) (by omega)
  refine ⟨e6, ?_, by omega, by omega⟩
  have : (t + l - 1) / l ≤ (t + 1) := by
    apply Int.ediv_le_of_le_mul (by omega)
    have : (t + 1) * l = t * l + l := by rw [Int.add_mul, Int.one_mul]
    have h5 : t * 1 ≤ t * l := Int.mul_le_mul_of_nonneg_left h1 h2
    omega
  omega

theorem next_ref (R : List (List Int)) (l c d t : Int) : Ev (fun k => tipstaffref25_Next.f k R l c d t) (nextF R l c d t) := by
  obtain ⟨K, h⟩ := ask_val R l c t d
  dsimp only at h
  have hb : (okL l && okC R c && okT t && okD d) = (okL l && okC R c && okD d && okT t) := by rw [Bool.and_assoc (okL l && okC R c), Bool.and_comm (okT t), ← Bool.and_assoc]
  rw [hb] at h
  unfold nextF
  by_cases h0 : askF R (okL l && okC R c && okD d && okT t) = 0
  · obtain ⟨hR, hb⟩ := askF_ok h0
    simp only [Bool.and_eq_true, okL_iff, okC_iff, okT_iff, okD_iff] at hb
    have hf := first_facts l t (by omega) (by omega) (by omega)
    obtain ⟨K', h'⟩ := ref_seek R hR l c d ((t + l - 1) / l) (by omega) (by omega) (by omega) (by omega) (rd_L1 R 0).length _ (Int.le_refl _) rfl
    refine ⟨K + K', fun k hk => ?_⟩
    dsimp only at h' ⊢
    rw [tipstaffref25_Next.f, h k (by omega), Option.bind_some, if_pos h0, if_pos h0, if_neg (by omega), wrap_id (t + l) (by omega) (by omega), wrap_id (t + l - 1) (by omega) (by omega), Int.tdiv_eq_ediv_of_nonneg (by omega), wrap_id ((t + l - 1) / l) (by omega) (by omega)]
    exact h' k (by omega)
  · refine ⟨K, fun k hk => ?_⟩
    dsimp only
    rw [tipstaffref25_Next.f, h k (by omega), Option.bind_some, if_neg h0, if_neg h0]

theorem seek_full (R : List (List Int)) (hR : OkR R) (c d f x : Int) (hx : x ∈ slotsL R c d) : ∃ r, seekL (mine R c d) (rd_L1 R 0).length f = some r := by
  have h3 := hR.2.2.1
  have e1 := Int.emod_nonneg (x - f) (show ((rd_L1 R 0).length : Int) ≠ 0 by omega)
  have e2 := Int.emod_lt_of_pos (x - f) (show 0 < ((rd_L1 R 0).length : Int) by omega)
  refine seek_is _ _ f (f + (x - f) % ((rd_L1 R 0).length : Int)) (by omega) (by omega) ?_
  rw [← mem_slots_mod R hR]
  have : (f + (x - f) % ((rd_L1 R 0).length : Int)) % ((rd_L1 R 0).length : Int) = x := by
    rw [Int.add_emod_emod, show f + (x - f) = x by omega]
    have := (mem_slotsL R c d x).1 hx
    exact Int.emod_eq_of_lt this.1 this.2.1
  rw [this]; exact hx

theorem next_val (R : List (List Int)) (l c d t : Int) : Ev (fun k => slice_Next.f k R l c d t) (nextF R l c d t) := by
  obtain ⟨K, h⟩ := valid_val R [okL l, okC R c, okD d, okT t] (by simp)
  dsimp only at h
  have hb : ([okL l, okC R c, okD d, okT t].all id) = (okL l && okC R c && okD d && okT t) := by simp [Bool.and_assoc]
  rw [hb] at h
  have open_ : ∀ k, slice_Next.f k R l c d t = (slice_valid.f k R [okL l, okC R c, okD d, okT t]).bind fun v =>
    if v = 0 then (if nextOk R l t then (slice_slots.f R c d).bind fun ks => if keysOk ks then (if ks.length = 0 then some (0, 6) else (nextGo ks (rd_L1 R 0).length k ((t + l - 1) / l)).map fun s => (wrap64 (s * l), 0)) else none else none) else some (0, v) := by
    intro k
    rw [slice_Next.f, long_val, Option.bind_some, car_val, Option.bind_some, dom_val, Option.bind_some, tick_val, Option.bind_some]; rfl
  unfold nextF
  by_cases h0 : askF R (okL l && okC R c && okD d && okT t) = 0
  · obtain ⟨hR, hb⟩ := askF_ok h0
    have hR' := hR
    obtain ⟨h1, h2, h3, h4, h5⟩ := hR'
    simp only [Bool.and_eq_true, okL_iff, okC_iff, okT_iff, okD_iff] at hb
    have hf := first_facts l t (by omega) (by omega) (by omega)
    have hk : keysOk (slotsL R c d) := ⟨by have := slotsL_len R c d; omega, fun x hx => by have := (mem_slotsL R c d x).1 hx; omega⟩
    by_cases hz : (slotsL R c d).length = 0
    · have hz' : slotsL R c d = [] := List.eq_nil_of_length_eq_zero hz
      have hn : seekL (mine R c d) (rd_L1 R 0).length ((t + l - 1) / l) = none := by
        cases hs : seekL (mine R c d) (rd_L1 R 0).length ((t + l - 1) / l) with
        | none => rfl
        | some r =>
          have := (mem_slots_mod R hR c d r).2 (seek_some _ _ _ _ hs).2.2.1
          rw [hz'] at this; simp at this
      refine ⟨K, fun k hk' => ?_⟩
      dsimp only
      rw [open_, h k (by omega), Option.bind_some, if_pos h0, if_pos (by unfold nextOk; omega), slots_val0 R hR c d (by omega) (by omega), Option.bind_some, if_pos hk, if_pos hz, if_pos h0, hn]
    · obtain ⟨x, hx⟩ := List.exists_mem_of_length_pos (show 0 < (slotsL R c d).length by omega)
      obtain ⟨r, hr⟩ := seek_full R hR c d ((t + l - 1) / l) x hx
      obtain ⟨K', h'⟩ := go_seek R hR c d _ _ r (by omega) (by omega) hr
      refine ⟨K + K', fun k hk' => ?_⟩
      dsimp only at h' ⊢
      rw [open_, h k (by omega), Option.bind_some, if_pos h0, if_pos (by unfold nextOk; omega), slots_val0 R hR c d (by omega) (by omega), Option.bind_some, if_pos hk, if_neg hz, h' k (by omega), if_pos h0, hr]; rfl
  · refine ⟨K, fun k hk => ?_⟩
    dsimp only
    rw [open_, h k (by omega), Option.bind_some, if_neg h0, if_neg h0]

/-! ### Wait -/
def waitL (ks : List Int) : Nat → Int → Int → Int
  | 0, m, _ => m
  | e + 1, m, i => waitL ks e (mx m (wrap64 (rd ks i - rd ks (i - 1)))) (i + 1)
theorem wait_loop (ks : List Int) (hl : ks.length ≤ 1000000) : ∀ (e i : Nat) (m : Int), 1 ≤ i → i + e = ks.length → Ev (fun k => slice_Wait.l0 k ks m (i : Int)) (waitL ks e m i, 0)
  | 0, i, m, h1, h2 => (Ev.const _).step (fun k => by rw [slice_Wait.l0, if_neg (by omega)]; rfl)
  | e + 1, i, m, h1, h2 => (wait_loop ks hl e (i + 1) (mx m (wrap64 (rd ks (i : Int) - rd ks ((i : Int) - 1)))) (by omega) (by omega)).step (fun k => by
      rw [slice_Wait.l0, if_pos (by omega), if_pos (by omega), wrap_id ((i : Int) - 1) (by omega) (by omega), if_pos (by omega), if_pos (by omega), wrap_succ i (by omega)])
theorem wait_ref_loop (ks : List Int) (hl : ks.length ≤ 1000000) : ∀ (e i : Nat) (m : Int), 1 ≤ i → i + e = ks.length → Ev (fun k => tipstaffref25_Wait.l0 k ks m (i : Int)) (waitL ks e m i, 0)
  | 0, i, m, h1, h2 => (Ev.const _).step (fun k => by rw [tipstaffref25_Wait.l0, if_neg (by omega)]; rfl)
  | e + 1, i, m, h1, h2 => (wait_ref_loop ks hl e (i + 1) (mx m (wrap64 (rd ks (i : Int) - rd ks ((i : Int) - 1)))) (by omega) (by omega)).step (fun k => by
      rw [tipstaffref25_Wait.l0, if_pos (by omega), if_pos (by omega), wrap_id ((i : Int) - 1) (by omega) (by omega), if_pos (by omega), if_pos (by omega), wrap_succ i (by omega)])

def waitF (R : List (List Int)) (c d : Int) : Int × Int :=
  if askF R (okC R c && okD d) = 0 then (if (slotsL R c d).length = 0 then (0, 6) else (waitL (slotsL R c d) ((slotsL R c d).length - 1) (wrap64 ((wrap64 ((rd (slotsL R c d) 0) + ((rd_L1 R 0).length : Int))) - (rd (slotsL R c d) (((slotsL R c d).length : Int) - 1)))) 1, 0))
  else (0, askF R (okC R c && okD d))

theorem wait_val (R : List (List Int)) (c d : Int) : Ev (fun k => slice_Wait.f k R c d) (waitF R c d) := by
  obtain ⟨K, h⟩ := valid_val R [okC R c, okD d] (by simp)
  dsimp only at h
  rw [show ([okC R c, okD d].all id) = (okC R c && okD d) by simp] at h
  have open_ : ∀ k, slice_Wait.f k R c d = (slice_valid.f k R [okC R c, okD d]).bind fun t277 => (if t277 = 0 then ((slice_slots.f R c d).bind fun t278 => (if (t278.length : Int) = 0 then (some (0, 6)) else (if 0 < (t278.length : Int) then (if 0 < (R.length : Int) then (if 0 ≤ (wrap64 ((t278.length : Int) - 1)) then (if (wrap64 ((t278.length : Int) - 1)) < (t278.length : Int) then (slice_Wait.l0 k t278 (wrap64 ((wrap64 ((rd t278 0) + ((rd_L1 R 0).length : Int))) - (rd t278 (wrap64 ((t278.length : Int) - 1))))) 1) else (none)) else (none)) else (none)) else (none)))) else (some (0, t277))) := by
    intro k; rw [slice_Wait.f, car_val, Option.bind_some, dom_val, Option.bind_some]; rfl
  unfold waitF
  by_cases h0 : askF R (okC R c && okD d) = 0
  · obtain ⟨hR, hb⟩ := askF_ok h0
    have hR' := hR
    obtain ⟨h1, h2, h3, h4, h5⟩ := hR'
    simp only [Bool.and_eq_true, okC_iff] at hb
    have hl := slotsL_len R c d
    by_cases hz : (slotsL R c d).length = 0
    · refine ⟨K, fun k hk => ?_⟩
      dsimp only
      rw [open_, h k (by omega), Option.bind_some, if_pos h0, if_pos h0, slots_val0 R hR c d hb.1.1 hb.1.2, Option.bind_some, if_pos (by omega), if_pos hz]
    · obtain ⟨K', h'⟩ := wait_loop (slotsL R c d) (by omega) ((slotsL R c d).length - 1) 1 (wrap64 ((wrap64 ((rd (slotsL R c d) 0) + ((rd_L1 R 0).length : Int))) - (rd (slotsL R c d) (((slotsL R c d).length : Int) - 1)))) (by omega) (by omega)
      refine ⟨K + K', fun k hk => ?_⟩
      dsimp only at h' ⊢
      rw [open_, h k (by omega), Option.bind_some, if_pos h0, if_pos h0, slots_val0 R hR c d hb.1.1 hb.1.2, Option.bind_some, if_neg (by omega), if_neg hz, wrap_id (((slotsL R c d).length : Int) - 1) (by omega) (by omega), if_pos (by omega), if_pos (by omega), if_pos (by omega), if_pos (by omega)]
      exact h' k (by omega)
  · refine ⟨K, fun k hk => ?_⟩
    dsimp only
    rw [open_, h k (by omega), Option.bind_some, if_neg h0, if_neg h0]

theorem wait_ref (R : List (List Int)) (c d : Int) : Ev (fun k => tipstaffref25_Wait.f k R c d) (waitF R c d) := by
  obtain ⟨K, h⟩ := ask_val R 1 c 0 d
  dsimp only at h
  rw [ask1] at h
  unfold waitF
  by_cases h0 : askF R (okC R c && okD d) = 0
  · obtain ⟨hR, hb⟩ := askF_ok h0
    have hR' := hR
    obtain ⟨h1, h2, h3, h4, h5⟩ := hR'
    simp only [Bool.and_eq_true, okC_iff] at hb
    have hl := slotsL_len R c d
    obtain ⟨K2, h2'⟩ := slots_ref0 R hR c d hb.1.1 hb.1.2
    dsimp only at h2'
    by_cases hz : (slotsL R c d).length = 0
    · refine ⟨K + K2, fun k hk => ?_⟩
      dsimp only
      rw [tipstaffref25_Wait.f, h k (by omega), Option.bind_some, if_pos h0, if_pos h0, h2' k (by omega), Option.bind_some, if_pos (by omega), if_pos hz]
    · obtain ⟨K', h'⟩ := wait_ref_loop (slotsL R c d) (by omega) ((slotsL R c d).length - 1) 1 (wrap64 ((wrap64 ((rd (slotsL R c d) 0) + ((rd_L1 R 0).length : Int))) - (rd (slotsL R c d) (((slotsL R c d).length : Int) - 1)))) (by omega) (by omega)
      refine ⟨K + K2 + K', fun k hk => ?_⟩
      dsimp only at h' ⊢
      rw [tipstaffref25_Wait.f, h k (by omega), Option.bind_some, if_pos h0, if_pos h0, h2' k (by omega), Option.bind_some, if_neg (by omega), if_neg hz, wrap_id (((slotsL R c d).length : Int) - 1) (by omega) (by omega), if_pos (by omega), if_pos (by omega), if_pos (by omega), if_pos (by omega)]
      exact h' k (by omega)
  · refine ⟨K, fun k hk => ?_⟩
    dsimp only
    rw [tipstaffref25_Wait.f, h k (by omega), Option.bind_some, if_neg h0, if_neg h0]

end Go.Proofs.Ythcgcfjcjikjmaa.Pure
