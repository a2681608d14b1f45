/- What the functions on panels come to, for a valid panel. -/
import Derived.Test.YtbkidegpgpccfaaS7
import Derived.Test.YtbkidegpgpccfaaS17
import Derived.Test.YtbkidegpgpccfaaS25
import Derived.Test.YtbkidegpgpccfaaS12
import Derived.Test.YtbkidegpgpccfaaS27
import Derived.Test.YtbkidegpgpccfaaS26
import Derived.Test.YtbkidegpgpccfaaHswing
import Derived.Test.YtbkidegpgpccfaaNums
namespace Go.Proofs.Ytbkidegpgpccfaa.Pure
open Go.RowKit Go.Proofs.Ytbkidegpgpccfaa.S Go.Proofs.YtbkidegpgpccfaaW.PrintWords Go.Proofs.YtbkidegpgpccfaaW.PrintLast
set_option linter.unusedVariables false
set_option linter.unusedSimpArgs false

def Ends (a w v : Int) : Prop := v > 0 ∧ a = w ∨ v < 0 ∧ a = 0
def Bnd (a w v : Int) : Prop := 1 ≤ w ∧ w ≤ 20 ∧ 0 ≤ a ∧ a ≤ w ∧ -1 ≤ v ∧ v ≤ 1
def Valid (a w v : Int) : Prop := Bnd a w v ∧ ¬ Ends a w v
instance (a w v : Int) : Decidable (Ends a w v) := by unfold Ends; infer_instance
instance (a w v : Int) : Decidable (Bnd a w v) := by unfold Bnd; infer_instance

theorem ends_val (a w v : Int) : panel_ends.f a w v = some (decide (Ends a w v)) := by
  unfold panel_ends.f Ends
  by_cases h1 : v > 0
  · have h2 : ¬ v < 0 := by omega
    by_cases h3 : a = w <;> simp [h1, h2, h3]
  · by_cases h2 : v < 0
    · rw [if_neg h1, if_pos h2]
      congr 1
      by_cases h3 : a = 0 <;> simp [h1, h2, h3]
    · simp [h1, h2]

def chk (a w v : Int) : Int := if Bnd a w v then (if Ends a w v then 3 else 0) else 2
theorem chk_ok {a w v : Int} (h : Valid a w v) : chk a w v = 0 := by unfold chk; rw [if_pos h.1, if_neg h.2]
theorem chk_zero {a w v : Int} (h : chk a w v = 0) : Valid a w v := by
  unfold chk at h
  by_cases h1 : Bnd a w v
  · rw [if_pos h1] at h
    by_cases h2 : Ends a w v
    · rw [if_pos h2] at h; cases h
    · exact ⟨h1, h2⟩
  · rw [if_neg h1] at h; cases h

theorem check_val (k : Nat) (hk : 2 < k) (a w v : Int) : panel_Check.f k a w v = some (chk a w v) := by
  obtain ⟨k, rfl, _⟩ := succ_of hk
  have h0 : ∀ b, panel_Check.j0 (k + 1) b a w v = if b = true then some 2 else some (if Ends a w v then 3 else 0) := by
    intro b
    rw [panel_Check.j0, ends_val, Option.bind_some]
    by_cases h : Ends a w v <;> simp [h]
  unfold panel_Check.f chk
  by_cases hb : Bnd a w v
  · rw [if_pos hb]
    unfold Bnd at hb
    rw [if_neg (by omega), if_neg (by omega), if_neg (by omega), if_neg (by omega), if_neg (by omega), decide_eq_false (by omega), h0, if_neg (show ¬ (false = true) by decide)]
  · rw [if_neg hb, h0 true, if_pos rfl]
    unfold Bnd at hb
    by_cases h5 : v < -1
    · rw [if_pos h5]
      (repeat' split) <;> rfl
    · by_cases h6 : v > 1
      · rw [decide_eq_true h6, h0 true, if_pos rfl]
        (repeat' split) <;> rfl
      · rw [decide_eq_false h6, h0 false, if_neg (show ¬ (false = true) by decide)]
        (repeat' split) <;> first | rfl | exact absurd ⟨by omega, by omega, by omega, by omega, by omega, by omega⟩ hb | (exfalso; omega)

theorem check_ref (k : Nat) (hk : 2 < k) (a w v : Int) : tipstaffref16_Check.f k a w v = some (chk a w v) := by
  obtain ⟨k, rfl, _⟩ := succ_of hk
  have h0 : ∀ b, -1 ≤ v ∧ v ≤ 1 ∨ b = true → tipstaffref16_Check.j0 (k + 1) b a w v = if b = true then some 2 else some (if Ends a w v then 3 else 0) := by
    intro b hv
    rw [tipstaffref16_Check.j0]
    by_cases hbt : b = true
    · rw [if_pos hbt, if_pos hbt]
    · rw [if_neg hbt, if_neg hbt]
      have hv := hv.resolve_right hbt
      (repeat' split) <;> first | rfl | (exfalso; omega) | (rw [if_pos (show Ends a w v by unfold Ends; omega)]) | (rw [if_neg (show ¬ Ends a w v by unfold Ends; omega)]) | (exfalso; unfold Ends at *; omega)
  unfold tipstaffref16_Check.f chk
  by_cases hb : Bnd a w v
  · rw [if_pos hb]
    unfold Bnd at hb
    rw [if_neg (by omega), if_neg (by omega), if_neg (by omega), if_neg (by omega), if_neg (by omega), decide_eq_false (by omega), h0 _ (.inl (by omega)), if_neg (show ¬ (false = true) by decide)]
  · rw [if_neg hb, h0 true (.inr rfl), if_pos rfl]
    unfold Bnd at hb
    by_cases h5 : v < -1
    · rw [if_pos h5]
      (repeat' split) <;> rfl
    · by_cases h6 : v > 1
      · rw [decide_eq_true h6, h0 true (.inr rfl), if_pos rfl]
        (repeat' split) <;> rfl
      · rw [decide_eq_false h6, h0 false (.inl (by omega)), if_neg (show ¬ (false = true) by decide)]
        (repeat' split) <;> first | rfl | exact absurd ⟨by omega, by omega, by omega, by omega, by omega, by omega⟩ hb | (exfalso; omega)

/-- The way behind an order. -/
def tw (a w v o : Int) : Int := if Ends a w (turned o v) then 0 else turned o v
theorem turned_bnd {o v : Int} (h : -1 ≤ v ∧ v ≤ 1) : -1 ≤ turned o v ∧ turned o v ≤ 1 := by
  unfold turned
  rw [wrap_id (-v) (by omega) (by omega)]
  (repeat' split) <;> omega
theorem told_val (a w v o : Int) : panel_told.f a w v o = some (a, w, tw a w v o) := by
  unfold panel_told.f tw
  rw [ends_val, Option.map_some]
  by_cases h : Ends a w (turned o v) <;> simp [h]
theorem tw_bnd {a w v : Int} (h : Bnd a w v) (o : Int) : Bnd a w (tw a w v o) := by
  have := turned_bnd (o := o) (v := v) (by unfold Bnd at h; omega)
  unfold Bnd at *
  unfold tw
  split <;> omega
theorem tw_valid {a w v : Int} (h : Bnd a w v) (o : Int) : Valid a w (tw a w v o) := by
  refine ⟨tw_bnd h o, ?_⟩
  unfold tw
  split
  · unfold Ends; omega
  · assumption
theorem told_ref (k : Nat) (hk : 2 < k) {a w v : Int} (h : Bnd a w v) (o : Int) : tipstaffref16_told.f k a w v o = some (a, w, tw a w v o) := by
  have key : ∀ u, -1 ≤ u ∧ u ≤ 1 → (tipstaffref16_Check.f k a w u).bind (fun t => if t = 0 then some (a, w, u) else some (a, w, 0)) = some (a, w, if Ends a w u then 0 else u) := fun u hu => by
    rw [check_ref k hk, Option.bind_some]
    unfold chk
    rw [if_pos (show Bnd a w u by unfold Bnd at *; omega)]
    by_cases he : Ends a w u <;> simp [he]
  have hv : -1 ≤ v ∧ v ≤ 1 := by unfold Bnd at h; omega
  have hb := turned_bnd (o := o) hv
  unfold tipstaffref16_told.f tw
  by_cases h1 : o = 1
  · subst h1; rw [if_pos rfl, key 1 (by omega)]; rfl
  · by_cases h2 : o = 2
    · subst h2; rw [if_neg h1, if_pos rfl, key (-1) (by omega)]; rfl
    · by_cases h3 : o = 3
      · subst h3; rw [if_neg h1, if_neg h2, if_pos rfl, key 0 (by omega)]; rfl
      · by_cases h4 : o = 4
        · subst h4; rw [if_neg h1, if_neg h2, if_neg h3, if_pos rfl, key _ (by rw [wrap_id (-v) (by omega) (by omega)]; omega)]; rfl
        · rw [if_neg h1, if_neg h2, if_neg h3, if_neg h4, key v hv]
          have : turned o v = v := by unfold turned; rw [if_neg h2, if_neg h1, if_neg h3, if_neg h4]
          rw [this]

/-- The way, and what the panel became, behind a tick. -/
def mw (a w v : Int) : Int := if Ends (a + v) w v then 0 else v
def mb (a w v : Int) : Int := if Ends (a + v) w v then v else 0
theorem moved_val {a w v : Int} (h : Bnd a w v) : panel_moved.f a w v = some (a + v, w, mw a w v, mb a w v) := by
  unfold panel_moved.f mw mb
  rw [wrap_id (a + v) (by unfold Bnd at h; omega) (by unfold Bnd at h; omega), ends_val, Option.bind_some]
  by_cases he : Ends (a + v) w v <;> simp [he]
theorem moved_bnd {a w v : Int} (h : Valid a w v) : Bnd (a + v) w v := by
  obtain ⟨h, he⟩ := h
  unfold Bnd Ends at *
  omega
theorem moved_valid {a w v : Int} (h : Valid a w v) : Valid (a + v) w (mw a w v) := by
  have hb := moved_bnd h
  unfold mw
  split
  · refine ⟨by unfold Bnd at *; omega, by unfold Ends; omega⟩
  · exact ⟨hb, by assumption⟩
theorem tick_ref (k : Nat) (hk : 2 < k) {a w v : Int} (h : Valid a w v) : tipstaffref16_tick.f k a w v = some (a + v, w, mw a w v, mb a w v) := by
  have hb := moved_bnd h
  unfold tipstaffref16_tick.f mw mb
  rw [wrap_id (a + v) (by unfold Bnd at hb; omega) (by unfold Bnd at hb; omega), check_ref k hk, Option.bind_some]
  unfold chk
  rw [if_pos hb]
  by_cases he : Ends (a + v) w v <;> simp [he]

theorem order_val (k : Nat) (hk : 5 < k) (a w v o : Int) : panel_Order.f k a w v o = some (if chk a w v = 0 then (if 0 ≤ o ∧ o < 5 then (a, w, tw a w v o, 0) else (0, 0, 0, 11)) else (0, 0, 0, chk a w v)) := by
  unfold panel_Order.f
  rw [check_val k (by omega), Option.bind_some]
  by_cases h : chk a w v = 0
  · rw [if_pos h, if_pos h, poss_f, Option.bind_some]
    unfold poss
    by_cases h2 : 0 ≤ o ∧ o < 5
    · rw [if_pos (by simp; omega), if_pos h2, told_val]; rfl
    · rw [if_neg (by simp; omega), if_neg h2]
  · rw [if_neg h, if_neg h]
theorem order_ref (k : Nat) (hk : 5 < k) (a w v o : Int) : tipstaffref16_Order.f k a w v o = some (if chk a w v = 0 then (if 0 ≤ o ∧ o < 5 then (a, w, tw a w v o, 0) else (0, 0, 0, 11)) else (0, 0, 0, chk a w v)) := by
  obtain ⟨k, rfl, _⟩ := succ_of hk
  unfold tipstaffref16_Order.f
  rw [check_ref (k + 1) (by omega), Option.bind_some]
  by_cases h : chk a w v = 0
  · have hv := chk_zero h
    rw [if_pos h, if_pos h]
    by_cases h2 : 0 ≤ o ∧ o < 5
    · rw [if_pos h2, if_neg (by omega), decide_eq_false (by omega), tipstaffref16_Order.j0, if_neg (by decide), if_pos h, told_ref k (by omega) hv.1]; rfl
    · rw [if_neg h2]
      by_cases h3 : o < 0
      · rw [if_pos h3, tipstaffref16_Order.j0, if_pos rfl]
      · rw [if_neg h3, decide_eq_true (by omega), tipstaffref16_Order.j0, if_pos rfl]
  · rw [if_neg h, if_neg h, tipstaffref16_Order.j0, if_neg (by decide), if_neg h]

theorem step_val (k : Nat) (hk : 5 < k) (a w v : Int) : panel_Step.f k a w v = some (if chk a w v = 0 then (a + v, w, mw a w v, mb a w v, 0) else (0, 0, 0, 0, chk a w v)) := by
  unfold panel_Step.f
  rw [check_val k (by omega), Option.bind_some]
  by_cases h : chk a w v = 0
  · rw [if_pos h, if_pos h, moved_val (chk_zero h).1, Option.bind_some, h]
  · rw [if_neg h, if_neg h]
theorem step_ref (k : Nat) (hk : 5 < k) (a w v : Int) : tipstaffref16_Step.f k a w v = some (if chk a w v = 0 then (a + v, w, mw a w v, mb a w v, 0) else (0, 0, 0, 0, chk a w v)) := by
  unfold tipstaffref16_Step.f
  rw [check_ref k (by omega), Option.bind_some]
  by_cases h : chk a w v = 0
  · rw [if_pos h, if_pos h, tick_ref k (by omega) (chk_zero h), Option.bind_some]
  · rw [if_neg h, if_neg h]

/-- How many ticks a panel moves. -/
def leftN (a w v : Int) : Nat := if v = 1 then (w - a).toNat else if v = -1 then a.toNat else 0
theorem left_bnd {a w v : Int} (h : Bnd a w v) : leftN a w v ≤ 20 := by
  unfold Bnd at h
  unfold leftN
  (repeat' split) <;> omega
theorem left_zero {a w v : Int} (h : Valid a w v) : leftN a w v = 0 ↔ v = 0 := by
  obtain ⟨h, he⟩ := h
  unfold Bnd at h
  unfold Ends at he
  unfold leftN
  (repeat' split) <;> omega
theorem left_step {a w v : Int} (h : Valid a w v) (hv : v ≠ 0) : leftN a w v = leftN (a + v) w (mw a w v) + 1 := by
  obtain ⟨h, he⟩ := h
  unfold Bnd at h
  unfold Ends at he
  have hm : mw a w v = if v > 0 ∧ a + v = w ∨ v < 0 ∧ a + v = 0 then 0 else v := by
    unfold mw
    by_cases h : Ends (a + v) w v
    · rw [if_pos h]; exact (if_pos h).symm
    · rw [if_neg h]; exact (if_neg h).symm
  rw [hm]
  unfold leftN
  (repeat' split) <;> omega
theorem left_val (k : Nat) (hk : 5 < k) (a w v : Int) : panel_Left.f k a w v = some (if chk a w v = 0 then ((leftN a w v : Int), 0) else (0, chk a w v)) := by
  unfold panel_Left.f
  rw [check_val k (by omega), Option.bind_some]
  by_cases h : chk a w v = 0
  · have hv := (chk_zero h).1
    unfold Bnd at hv
    rw [if_pos h, if_pos h]
    unfold leftN
    by_cases h1 : v = 1
    · rw [if_pos h1, if_pos h1, wrap_id _ (by omega) (by omega), show (((w - a).toNat : Nat) : Int) = w - a by omega]
    · rw [if_neg h1, if_neg h1]
      by_cases h2 : v = -1
      · rw [if_pos h2, if_pos h2, show ((a.toNat : Nat) : Int) = a by omega]
      · rw [if_neg h2, if_neg h2]; rfl
  · rw [if_neg h, if_neg h]
theorem left_ref_loop : ∀ (d k : Nat) (a w v x : Int), Valid a w v → leftN a w v = d → 0 ≤ x → x + d ≤ 1000 → d + 5 < k → tipstaffref16_Left.l0 k x a w v = some (x + d, 0) := by
  intro d
  induction d with
  | zero =>
    intro k a w v x h hd h0 h1 hk
    obtain ⟨k, rfl, _⟩ := succ_of hk
    rw [tipstaffref16_Left.l0, if_pos ((left_zero h).1 hd)]
    simp
  | succ d ih =>
    intro k a w v x h hd h0 h1 hk
    obtain ⟨k, rfl, _⟩ := succ_of hk
    have hv : v ≠ 0 := fun e => by have := (left_zero h).2 e; omega
    rw [tipstaffref16_Left.l0, if_neg hv, tick_ref k (by omega) h, Option.bind_some, wrap_id (x + 1) (by omega) (by omega)]
    have hl := left_step h hv
    rw [ih k (a + v) w (mw a w v) (x + 1) (moved_valid h) (by omega) (by omega) (by omega) (by omega)]
    congr 2
    omega
theorem left_ref (k : Nat) (hk : 50 < k) (a w v : Int) : tipstaffref16_Left.f k a w v = some (if chk a w v = 0 then ((leftN a w v : Int), 0) else (0, chk a w v)) := by
  unfold tipstaffref16_Left.f
  rw [check_ref k (by omega), Option.bind_some]
  by_cases h : chk a w v = 0
  · have hv := chk_zero h
    have hb := left_bnd hv.1
    rw [if_pos h, if_pos h, left_ref_loop (leftN a w v) k a w v 0 hv rfl (by omega) (by omega) (by omega), Int.zero_add]
  · rw [if_neg h, if_neg h]

/-- A panel after some ticks. -/
def runA (a w v : Int) (t : Nat) : Int := a + v * (min t (leftN a w v) : Nat)
def runV (a w v : Int) (t : Nat) : Int := if leftN a w v ≤ t then 0 else v
theorem run_step {a w v : Int} (h : Valid a w v) (t : Nat) : runA a w v (t + 1) = runA (a + v) w (mw a w v) t ∧ runV a w v (t + 1) = runV (a + v) w (mw a w v) t := by
  by_cases hv : v = 0
  · subst hv
    have hm : mw a w 0 = 0 := by unfold mw; split <;> rfl
    have hl : ∀ b, leftN b w 0 = 0 := fun b => by unfold leftN; rfl
    rw [hm]
    unfold runA runV
    rw [hl, hl]
    simp
  · have hl := left_step h hv
    unfold runA runV
    rw [hl]
    have h1 : -1 ≤ v ∧ v ≤ 1 := by have := h.1; unfold Bnd at this; omega
    have hm : mw a w v = 0 ∨ mw a w v = v := by unfold mw; split <;> simp
    have hz : mw a w v = 0 → leftN (a + v) w (mw a w v) = 0 := fun e => (left_zero (moved_valid h)).2 e
    rcases hm with hm | hm
    · have := hz hm
      rw [hm] at this ⊢
      rw [this]
      have e : v = 1 ∨ v = -1 := by omega
      rcases e with rfl | rfl <;> simp <;> omega
    · rw [hm]
      have e : v = 1 ∨ v = -1 := by omega
      generalize leftN (a + v) w v = n
      rcases e with rfl | rfl
      · refine ⟨by omega, ?_⟩
        by_cases hc : n ≤ t
        · rw [if_pos hc, if_pos (by omega)]
        · rw [if_neg hc, if_neg (by omega)]
      · refine ⟨by omega, ?_⟩
        by_cases hc : n ≤ t
        · rw [if_pos hc, if_pos (by omega)]
        · rw [if_neg hc, if_neg (by omega)]

theorem run_ref_loop (T : Nat) (hT : T ≤ 1000) : ∀ (d k i : Nat) (a w v : Int), i + d = T → Valid a w v → d + 5 < k → tipstaffref16_Run.l0 k (T : Int) (i : Int) a w v = some (runA a w v d, w, runV a w v d, 0) := by
  intro d
  induction d with
  | zero =>
    intro k i a w v hi h hk
    obtain ⟨k, rfl, _⟩ := succ_of hk
    rw [tipstaffref16_Run.l0, if_neg (by omega)]
    have e : runV a w v 0 = v := by
      unfold runV
      by_cases hl : leftN a w v ≤ 0
      · rw [if_pos hl]; exact ((left_zero h).1 (by omega)).symm
      · rw [if_neg hl]
    rw [e]
    unfold runA
    simp
  | succ d ih =>
    intro k i a w v hi h hk
    obtain ⟨k, rfl, _⟩ := succ_of hk
    rw [tipstaffref16_Run.l0, if_pos (by omega), tick_ref k (by omega) h, Option.bind_some, wrap_succ i (by omega)]
    have := ih k (i + 1) (a + v) w (mw a w v) (by omega) (moved_valid h) (by omega)
    rw [(run_step h d).1, (run_step h d).2]
    exact this

theorem run_val (k : Nat) (hk : 8 < k) (a w v t : Int) : panel_Run.f k a w v t = some (if chk a w v = 0 then (if 0 ≤ t ∧ t ≤ 1000 then (runA a w v t.toNat, w, runV a w v t.toNat, 0) else (0, 0, 0, 2)) else (0, 0, 0, chk a w v)) := by
  obtain ⟨k, rfl, _⟩ := succ_of hk
  unfold panel_Run.f
  rw [left_val (k + 1) (by omega), Option.bind_some]
  by_cases h : chk a w v = 0
  · have hv := chk_zero h
    have hb := left_bnd hv.1
    rw [if_pos h, if_pos h, if_pos rfl]
    by_cases h2 : 0 ≤ t ∧ t ≤ 1000
    · rw [if_pos h2, if_neg (by omega), decide_eq_false (by omega), panel_Run.j0, if_neg (by decide)]
      have em : mn t (leftN a w v : Int) = ((min t.toNat (leftN a w v) : Nat) : Int) := by unfold mn; split <;> omega
      have hbb := hv.1
      unfold Bnd at hbb
      have e : v = 1 ∨ v = -1 ∨ v = 0 := by omega
      have ea : wrap64 (a + wrap64 (v * mn t (leftN a w v : Int))) = runA a w v t.toNat := by
        rw [em]
        unfold runA
        generalize hg : min t.toNat (leftN a w v) = g
        have : g ≤ 20 := by omega
        rcases e with rfl | rfl | rfl
        · rw [wrap_id (1 * (g : Int)) (by omega) (by omega), wrap_id _ (by omega) (by omega)]
        · rw [wrap_id (-1 * (g : Int)) (by omega) (by omega), wrap_id _ (by omega) (by omega)]
        · rw [Int.zero_mul, wrap_id 0 (by omega) (by omega), wrap_id _ (by omega) (by omega)]
      rw [ea]
      unfold runV
      by_cases hc : leftN a w v ≤ t.toNat
      · rw [if_pos (by show t ≥ (leftN a w v : Int); omega), if_pos hc]
      · rw [if_neg (by show ¬ t ≥ (leftN a w v : Int); omega), if_neg hc]
    · rw [if_neg h2]
      by_cases h3 : t < 0
      · rw [if_pos h3, panel_Run.j0, if_pos rfl]
      · rw [if_neg h3, decide_eq_true (by omega), panel_Run.j0, if_pos rfl]
  · rw [if_neg h, if_neg h, if_neg h]
theorem run_ref (k : Nat) (hk : 1010 < k) (a w v t : Int) : tipstaffref16_Run.f k a w v t = some (if chk a w v = 0 then (if 0 ≤ t ∧ t ≤ 1000 then (runA a w v t.toNat, w, runV a w v t.toNat, 0) else (0, 0, 0, 2)) else (0, 0, 0, chk a w v)) := by
  obtain ⟨k, rfl, _⟩ := succ_of hk
  obtain ⟨k, rfl⟩ : ∃ m, k = m + 1 := ⟨k - 1, by omega⟩
  unfold tipstaffref16_Run.f
  rw [check_ref (k + 1 + 1) (by omega), Option.bind_some]
  by_cases h : chk a w v = 0
  · have hv := chk_zero h
    rw [if_pos h, if_pos h]
    by_cases h2 : 0 ≤ t ∧ t ≤ 1000
    · obtain ⟨T, rfl⟩ := Int.eq_ofNat_of_zero_le h2.1
      rw [if_pos h2, if_neg (by omega), decide_eq_false (by omega), tipstaffref16_Run.j0, if_neg (by decide), tipstaffref16_Run.j1, if_pos h]
      have := run_ref_loop T (by omega) T k 0 a w v (by omega) hv (by omega)
      rw [show ((0 : Nat) : Int) = 0 from rfl] at this
      rw [this, Int.toNat_natCast]
    · rw [if_neg h2]
      by_cases h3 : t < 0
      · rw [if_pos h3, tipstaffref16_Run.j0, if_pos rfl, tipstaffref16_Run.j1, if_neg (by decide)]
      · rw [if_neg h3, decide_eq_true (by omega), tipstaffref16_Run.j0, if_pos rfl, tipstaffref16_Run.j1, if_neg (by decide)]
  · rw [if_neg h, if_neg h, tipstaffref16_Run.j0, if_neg (by decide), tipstaffref16_Run.j1, if_neg h]

end Go.Proofs.Ytbkidegpgpccfaa.Pure
