/- What the functions on panels come to, for a valid panel. -/
import Derived.Test.YtbkidegpgpccfaaS7
import Derived.Test.YtbkidegpgpccfaaS12
import Derived.Test.YtbkidegpgpccfaaHswing
import Derived.Test.YtbkidegpgpccfaaNums
namespace Go.Proofs.Ytbkidegpgpccfaa.Pure
open Go.RowKit Go.Proofs.Ytbkidegpgpccfaa.S Go.Proofs.YtbkidegpgpccfaaW.PrintWords Go.Proofs.YtbkidegpgpccfaaW.PrintLast
set_option linter.unusedVariables false
set_option linter.unusedSimpArgs false

def Ends (a w v : Int) : Prop := v > 0 ∧ a = w ∨ v < 0 ∧ a = 0
def Bnd (a w v : Int) : Prop := 1 ≤ w ∧ w ≤ 20 ∧ 0 ≤ a ∧ a ≤ w ∧ -1 ≤ v ∧ v ≤ 1
def Valid (a w v : Int) : Prop := Bnd a w v ∧ ¬ Ends a w v
instance (a w v : Int) : Decidable (Ends a w v) := by unfold Ends; infer_instance
instance (a w v : Int) : Decidable (Bnd a w v) := by unfold Bnd; infer_instance

theorem ends_val (a w v : Int) : panel_ends.f a w v = some (decide (Ends a w v)) := by
  unfold panel_ends.f Ends
  by_cases h1 : v > 0
  · have h2 : ¬ v < 0 := by omega
    by_cases h3 : a = w <;> simp [h1, h2, h3]
  · by_cases h2 : v < 0
    · rw [if_neg h1, if_pos h2]
      congr 1
      by_cases h3 : a = 0 <;> simp [h1, h2, h3]
    · simp [h1, h2]

def chk (a w v : Int) : Int := if Bnd a w v then (if Ends a w v then 3 else 0) else 2
theorem chk_ok {a w v : Int} (h : Valid a w v) : chk a w v = 0 := by unfold chk; rw [if_pos h.1, if_neg h.2]
theorem chk_zero {a w v : Int} (h : chk a w v = 0) : Valid a w v := by
  unfold chk at h
  by_cases h1 : Bnd a w v
  · rw [if_pos h1] at h
    by_cases h2 : Ends a w v
    · rw [if_pos h2] at h; cases h
    · exact ⟨h1, h2⟩
  · rw [if_neg h1] at h; cases h

theorem check_val (k : Nat) (hk : 2 < k) (a w v : Int) : panel_Check.f k a w v = some (chk a w v) := by
  obtain ⟨k, rfl, _⟩ := succ_of hk
  have h0 : ∀ b, panel_Check.j0 (k + 1) b a w v = if b = true then some 2 else some (if Ends a w v then 3 else 0) := by
    intro b
    rw [panel_Check.j0, ends_val, Option.bind_some]
    by_cases h : Ends a w v <;> simp [h]
  unfold panel_Check.f chk
  by_cases hb : Bnd a w v
  · rw [if_pos hb]
    unfold Bnd at hb
    rw [if_neg (by omega), if_neg (by omega), if_neg (by omega), if_neg (by omega), if_neg (by omega), decide_eq_false (by omega), h0, if_neg (show ¬ (false = true) by decide)]
  · rw [if_neg hb, h0 true, if_pos rfl]
    unfold Bnd at hb
    by_cases h5 : v < -1
    · rw [if_pos h5]
      (repeat' split) <;> rfl
    · by_cases h6 : v > 1
      · rw [decide_eq_true h6, h0 true, if_pos rfl]
        (repeat' split) <;> rfl
      · rw [decide_eq_false h6, h0 false, if_neg (show ¬ (false = true) by decide)]
        (repeat' split) <;> first | rfl | exact absurd ⟨by omega, by omega, by omega, by omega, by omega, by omega⟩ hb | (exfalso; omega)

theorem check_ref (k : Nat) (hk : 2 < k) (a w v : Int) : tipstaffref16_Check.f k a w v = some (chk a w v) := by
  obtain ⟨k, rfl, _⟩ := succ_of hk
  have h0 : ∀ b, -1 ≤ v ∧ v ≤ 1 ∨ b = true → tipstaffref16_Check.j0 (k + 1) b a w v = if b = true then some 2 else some (if Ends a w v then 3 else 0) := by
    intro b hv
    rw [tipstaffref16_Check.j0]
    by_cases hbt : b = true
    · rw [if_pos hbt, if_pos hbt]
    · rw [if_neg hbt, if_neg hbt]
      have hv := hv.resolve_right hbt
      (repeat' split) <;> first | rfl | (exfalso; omega) | (rw [if_pos (show Ends a w v by unfold Ends; omega)]) | (rw [if_neg (show ¬ Ends a w v by unfold Ends; omega)]) | (exfalso; unfold Ends at *; omega)
  unfold tipstaffref16_Check.f chk
  by_cases hb : Bnd a w v
  · rw [if_pos hb]
    unfold Bnd at hb
    rw [if_neg (by omega), if_neg (by omega), if_neg (by omega), if_neg (by omega), if_neg (by omega), decide_eq_false (by omega), h0 _ (.inl (by omega)), if_neg (show ¬ (false = true) by decide)]
  · rw [if_neg hb, h0 true (.inr rfl), if_pos rfl]
    unfold Bnd at hb
    by_cases h5 : v < -1
    · rw [if_pos h5]
      (repeat' split) <;> rfl
    · by_cases h6 : v > 1
      · rw [decide_eq_true h6, h0 true (.inr rfl), if_pos rfl]
        (repeat' split) <;> rfl
      · rw [decide_eq_false h6, h0 false (.inl (by omega)), if_neg (show ¬ (false = true) by decide)]
        (repeat' split) <;> first | rfl | exact absurd ⟨by omega, by omega, by omega, by omega, by omega, by omega⟩ hb | (exfalso; omega)

/-- The way behind an order. -/
def tw (a w v o : Int) : Int := if Ends a w (turned o v) then 0 else turned o v
theorem turned_bnd {o v : Int} (h : -1 ≤ v ∧ v ≤ 1) : -1 ≤ turned o v ∧ turned o v ≤ 1 := by
  unfold turned
  rw [wrap_id (-v) (by omega) (by omega)]
  (repeat' split) <;> omega
theorem told_val (a w v o : Int) : panel_told.f a w v o = some (a, w, tw a w v o) := by
  unfold panel_told.f tw
  rw [ends_val, Option.map_some]
  by_cases h : Ends a w (turned o v) <;> simp [h]
theorem tw_bnd {a w v : Int} (h : Bnd a w v) (o : Int) : Bnd a w (tw a w v o) := by
  have := turned_bnd (o := o) (v := v) (by unfold Bnd at h; omega)
  unfold Bnd at *
  unfold tw
  split <;> omega
theorem tw_valid {a w v : Int} (h : Bnd a w v) (o : Int) : Valid a w (tw a w v o) := by
  refine ⟨tw_bnd h o, ?_⟩
  unfold tw
  split
  · unfold Ends; omega
  · assumption
theorem told_ref (k : Nat) (hk : 2 < k) {a w v : Int} (h : Bnd a w v) (o : Int) : tipstaffref16_told.f k a w v o = some (a, w, tw a w v o) := by
  have key : ∀ u, -1 ≤ u ∧ u ≤ 1 → (tipstaffref16_Check.f k a w u).bind (fun t => if t = 0 then some (a, w, u) else some (a, w, 0)) = some (a, w, if Ends a w u then 0 else u) := fun u hu => by
    rw [check_ref k hk, Option.bind_some]
    unfold chk
    rw [if_pos (show Bnd a w u by unfold Bnd at *; omega)]
    by_cases he : Ends a w u <;> simp [he]
  have hv : -1 ≤ v ∧ v ≤ 1 := by unfold Bnd at h; omega
  have hb := turned_bnd (o := o) hv
  unfold tipstaffref16_told.f tw
  by_cases h1 : o = 1
  · subst h1; rw [if_pos rfl, key 1 (by omega)]; rfl
  · by_cases h2 : o = 2
    · subst h2; rw [if_neg h1, if_pos rfl, key (-1) (by omega)]; rfl
    · by_cases h3 : o = 3
      · subst h3; rw [if_neg h1, if_neg h2, if_pos rfl, key 0 (by omega)]; rfl
      · by_cases h4 : o = 4
        · subst h4; rw [if_neg h1, if_neg h2, if_neg h3, if_pos rfl, key _ (by rw [wrap_id (-v) (by omega) (by omega)]; omega)]; rfl
        · rw [if_neg h1, if_neg h2, if_neg h3, if_neg h4, key v hv]
          have : turned o v = v := by unfold turned; rw [if_neg h2, if_neg h1, if_neg h3, if_neg h4]
          rw [this]

/-- The way, and what the panel became, behind a tick. -/
def mw (a w v : Int) : Int := if Ends (a + v) w v then 0 else v
def mb (a w v : Int) : Int := if Ends (a + v) w v then v else 0
theorem moved_val {a w v : Int} (h : Bnd a w v) : panel_moved.f a w v = some (a + v, w, mw a w v, mb a w v) := by
  unfold panel_moved.f mw mb
  rw [wrap_id (a + v) (by unfold Bnd at h; omega) (by unfold Bnd at h; omega), ends_val, Option.bind_some]
  by_cases he : Ends (a + v) w v <;> simp [he]
theorem moved_bnd {a w v : Int} (h : Valid a w v) : Bnd (a + v) w v := by
  obtain ⟨h, he⟩ := h
  unfold Bnd Ends at *
  omega
theorem moved_valid {a w v : Int} (h : Valid a w v) : Valid (a + v) w (mw a w v) := by
  have hb := moved_bnd h
  unfold mw
  split
  · refine ⟨by unfold Bnd at *; omega, by unfold Ends; omega⟩
  · exact ⟨hb, by assumption⟩
theorem tick_ref (k : Nat) (hk : 2 < k) {a w v : Int} (h : Valid a w v) : tipstaffref16_tick.f k a w v = some (a + v, w, mw a w v, mb a w v) := by
  have hb := moved_bnd h
  unfold tipstaffref16_tick.f mw mb
  rw [wrap_id (a + v) (by unfold Bnd at hb; omega) (by unfold Bnd at hb; omega), check_ref k hk, Option.bind_some]
  unfold chk
  rw [if_pos hb]
  by_cases he : Ends (a + v) w v <;> simp [he]

theorem order_val (k : Nat) (hk : 5 < k) (a w v o : Int) : panel_Order.f k a w v o = some (if chk a w v = 0 then (if 0 ≤ o ∧ o < 5 then (a, w, tw a w v o, 0) else (0, 0, 0, 11)) else (0, 0, 0, chk a w v)) := by
  unfold panel_Order.f
  rw [check_val k (by omega), Option.bind_some]
  by_cases h : chk a w v = 0
  · rw [if_pos h, if_pos h, poss_f, Option.bind_some]
    unfold poss
    by_cases h2 : 0 ≤ o ∧ o < 5
    · rw [if_pos (by simp; omega), if_pos h2, told_val]; rfl
    · rw [if_neg (by simp; omega), if_neg h2]
  · rw [if_neg h, if_neg h]
theorem order_ref (k : Nat) (hk : 5 < k) (a w v o : Int) : tipstaffref16_Order.f k a w v o = some (if chk a w v = 0 then (if 0 ≤ o ∧ o < 5 then (a, w, tw a w v o, 0) else (0, 0, 0, 11)) else (0, 0, 0, chk a w v)) := by
  obtain ⟨k, rfl, _⟩ := succ_of hk
  unfold tipstaffref16_Order.f
  rw [check_ref (k + 1) (by omega), Option.bind_some]
  by_cases h : chk a w v = 0
  · have hv := chk_zero h
    rw [if_pos h, if_pos h]
    by_cases h2 : 0 ≤ o ∧ o < 5
    · rw [if_pos h2, if_neg (by omega), decide_eq_false (by omega), tipstaffref16_Order.j0, if_neg (by decide), if_pos h, told_ref k (by omega) hv.1]; rfl
    · rw [if_neg h2]
      by_cases h3 : o < 0
      · rw [if_pos h3, tipstaffref16_Order.j0, if_pos rfl]
      · rw [if_neg h3, decide_eq_true (by omega), tipstaffref16_Order.j0, if_pos rfl]
  · rw [if_neg h, if_neg h, tipstaffref16_Order.j0, if_neg (by decide), if_neg h]

end Go.Proofs.Ytbkidegpgpccfaa.Pure
