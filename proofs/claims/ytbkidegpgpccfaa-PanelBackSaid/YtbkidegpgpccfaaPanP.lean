/- What the functions on panels come to, for a valid panel. -/
import Derived.Test.YtbkidegpgpccfaaS3
import Derived.Test.YtbkidegpgpccfaaHswing
import Derived.Test.YtbkidegpgpccfaaNums
namespace Go.Proofs.Ytbkidegpgpccfaa.Pure
open Go.RowKit Go.Proofs.Ytbkidegpgpccfaa.S Go.Proofs.YtbkidegpgpccfaaW.PrintWords Go.Proofs.YtbkidegpgpccfaaW.PrintLast
set_option linter.unusedVariables false
set_option linter.unusedSimpArgs false

def Ends (a w v : Int) : Prop := v > 0 ∧ a = w ∨ v < 0 ∧ a = 0
def Bnd (a w v : Int) : Prop := 1 ≤ w ∧ w ≤ 20 ∧ 0 ≤ a ∧ a ≤ w ∧ -1 ≤ v ∧ v ≤ 1
def Valid (a w v : Int) : Prop := Bnd a w v ∧ ¬ Ends a w v
instance (a w v : Int) : Decidable (Ends a w v) := by unfold Ends; infer_instance
instance (a w v : Int) : Decidable (Bnd a w v) := by unfold Bnd; infer_instance

theorem ends_val (a w v : Int) : panel_ends.f a w v = some (decide (Ends a w v)) := by
  unfold panel_ends.f Ends
  by_cases h1 : v > 0
  · have h2 : ¬ v < 0 := by omega
    by_cases h3 : a = w <;> simp [h1, h2, h3]
  · by_cases h2 : v < 0
    · rw [if_neg h1, if_pos h2]
      congr 1
      by_cases h3 : a = 0 <;> simp [h1, h2, h3]
    · simp [h1, h2]

def chk (a w v : Int) : Int := if Bnd a w v then (if Ends a w v then 3 else 0) else 2
theorem chk_ok {a w v : Int} (h : Valid a w v) : chk a w v = 0 := by unfold chk; rw [if_pos h.1, if_neg h.2]
theorem chk_zero {a w v : Int} (h : chk a w v = 0) : Valid a w v := by
  unfold chk at h
  by_cases h1 : Bnd a w v
  · rw [if_pos h1] at h
    by_cases h2 : Ends a w v
    · rw [if_pos h2] at h; cases h
    · exact ⟨h1, h2⟩
  · rw [if_neg h1] at h; cases h

theorem check_val (k : Nat) (hk : 2 < k) (a w v : Int) : panel_Check.f k a w v = some (chk a w v) := by
  obtain ⟨k, rfl, _⟩ := succ_of hk
  have h0 : ∀ b, panel_Check.j0 (k + 1) b a w v = if b = true then some 2 else some (if Ends a w v then 3 else 0) := by
    intro b
    rw [panel_Check.j0, ends_val, Option.bind_some]
    by_cases h : Ends a w v <;> simp [h]
  unfold panel_Check.f chk
  by_cases hb : Bnd a w v
  · rw [if_pos hb]
    unfold Bnd at hb
    rw [if_neg (by omega), if_neg (by omega), if_neg (by omega), if_neg (by omega), if_neg (by omega), decide_eq_false (by omega), h0, if_neg (show ¬ (false = true) by decide)]
  · rw [if_neg hb, h0 true, if_pos rfl]
    unfold Bnd at hb
    by_cases h5 : v < -1
    · rw [if_pos h5]
      (repeat' split) <;> rfl
    · by_cases h6 : v > 1
      · rw [decide_eq_true h6, h0 true, if_pos rfl]
        (repeat' split) <;> rfl
      · rw [decide_eq_false h6, h0 false, if_neg (show ¬ (false = true) by decide)]
        (repeat' split) <;> first | rfl | exact absurd ⟨by omega, by omega, by omega, by omega, by omega, by omega⟩ hb | (exfalso; omega)

/-- The way behind an order. -/
def tw (a w v o : Int) : Int := if Ends a w (turned o v) then 0 else turned o v
theorem turned_bnd {o v : Int} (h : -1 ≤ v ∧ v ≤ 1) : -1 ≤ turned o v ∧ turned o v ≤ 1 := by
  unfold turned
  rw [wrap_id (-v) (by omega) (by omega)]
  (repeat' split) <;> omega
theorem told_val (a w v o : Int) : panel_told.f a w v o = some (a, w, tw a w v o) := by
  unfold panel_told.f tw
  rw [ends_val, Option.map_some]
  by_cases h : Ends a w (turned o v) <;> simp [h]
theorem tw_bnd {a w v : Int} (h : Bnd a w v) (o : Int) : Bnd a w (tw a w v o) := by
  have := turned_bnd (o := o) (v := v) (by unfold Bnd at h; omega)
  unfold Bnd at *
  unfold tw
  split <;> omega
theorem tw_valid {a w v : Int} (h : Bnd a w v) (o : Int) : Valid a w (tw a w v o) := by
  refine ⟨tw_bnd h o, ?_⟩
  unfold tw
  split
  · unfold Ends; omega
  · assumption
/-- The way, and what the panel became, behind a tick. -/
def mw (a w v : Int) : Int := if Ends (a + v) w v then 0 else v
def mb (a w v : Int) : Int := if Ends (a + v) w v then v else 0
theorem moved_val {a w v : Int} (h : Bnd a w v) : panel_moved.f a w v = some (a + v, w, mw a w v, mb a w v) := by
  unfold panel_moved.f mw mb
  rw [wrap_id (a + v) (by unfold Bnd at h; omega) (by unfold Bnd at h; omega), ends_val, Option.bind_some]
  by_cases he : Ends (a + v) w v <;> simp [he]
theorem moved_bnd {a w v : Int} (h : Valid a w v) : Bnd (a + v) w v := by
  obtain ⟨h, he⟩ := h
  unfold Bnd Ends at *
  omega
theorem moved_valid {a w v : Int} (h : Valid a w v) : Valid (a + v) w (mw a w v) := by
  have hb := moved_bnd h
  unfold mw
  split
  · refine ⟨by unfold Bnd at *; omega, by unfold Ends; omega⟩
  · exact ⟨hb, by assumption⟩
theorem order_val (k : Nat) (hk : 5 < k) (a w v o : Int) : panel_Order.f k a w v o = some (if chk a w v = 0 then (if 0 ≤ o ∧ o < 5 then (a, w, tw a w v o, 0) else (0, 0, 0, 11)) else (0, 0, 0, chk a w v)) := by
  unfold panel_Order.f
  rw [check_val k (by omega), Option.bind_some]
  by_cases h : chk a w v = 0
  · rw [if_pos h, if_pos h, poss_f, Option.bind_some]
    unfold poss
    by_cases h2 : 0 ≤ o ∧ o < 5
    · rw [if_pos (by simp; omega), if_pos h2, told_val]; rfl
    · rw [if_neg (by simp; omega), if_neg h2]
  · rw [if_neg h, if_neg h]
end Go.Proofs.Ytbkidegpgpccfaa.Pure
