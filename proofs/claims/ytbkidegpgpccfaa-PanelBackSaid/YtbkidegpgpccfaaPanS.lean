/- Swings, least ticks and orders: the program's. -/
import Derived.Test.YtbkidegpgpccfaaS3
import Derived.Test.YtbkidegpgpccfaaPanP
namespace Go.Proofs.Ytbkidegpgpccfaa.Pure
open Go.RowKit Go.Proofs.Ytbkidegpgpccfaa.S Go.Proofs.YtbkidegpgpccfaaW.PrintWords Go.Proofs.YtbkidegpgpccfaaW.PrintLast
set_option linter.unusedVariables false
set_option linter.unusedSimpArgs false

abbrev Row := Int × Int × Int × Int
/-- The panels and what they became, order by order. -/
def swL : List Int → Int → Int → Int → List Row
  | [], _, _, _ => []
  | o :: os, a, w, v => (a + tw a w v o, w, mw a w (tw a w v o), mb a w (tw a w v o)) :: swL os (a + tw a w v o) w (mw a w (tw a w v o))
theorem swing_total (l : List Int) : ∀ a w v, Valid a w v → swingL l (a, w, v) = some (swL l a w v) := by
  induction l with
  | nil => intro a w v _; rfl
  | cons o os ih =>
    intro a w v h
    have h1 := tw_valid h.1 o
    rw [swingL]
    show (panel_told.f a w v o).bind _ = _
    rw [told_val, Option.bind_some]
    show (panel_moved.f a w (tw a w v o)).bind _ = _
    rw [moved_val h1.1, Option.bind_some]
    show (swingL os (a + tw a w v o, w, mw a w (tw a w v o))).map _ = _
    rw [ih _ _ _ (moved_valid h1)]
    rfl
def lastV (l : List Int) (a w v : Int) : Pan := lastP (swL l a w v) (a, w, v)
theorem lastV_cons (o : Int) (os : List Int) (a w v : Int) : lastV (o :: os) a w v = lastV os (a + tw a w v o) w (mw a w (tw a w v o)) := rfl
theorem lastV_valid (l : List Int) : ∀ a w v, Valid a w v → Valid (lastV l a w v).1 (lastV l a w v).2.1 (lastV l a w v).2.2 ∧ (lastV l a w v).2.1 = w := by
  induction l with
  | nil => intro a w v h; exact ⟨h, rfl⟩
  | cons o os ih =>
    intro a w v h
    rw [lastV_cons]
    exact ih _ _ _ (moved_valid (tw_valid h.1 o))

def upF (n : Int) (x : Row) : Int := if x.2.2.2 = 1 then wrap64 (n + 1) else n
def downF (n : Int) (x : Row) : Int := if x.2.2.2 = 1 then n else if x.2.2.2 = -1 then wrap64 (n + 1) else n
def SW (a w v : Int) (l : List Int) : Int × Int × Int × Int × Int × Int :=
  if chk a w v = 0 then (if l.length > 1000 then (0, 0, 0, 0, 0, 4) else if okL l = true then ((lastV l a w v).1, (lastV l a w v).2.1, (lastV l a w v).2.2, (swL l a w v).foldl upF 0, (swL l a w v).foldl downF 0, 0) else (0, 0, 0, 0, 0, 11)) else (0, 0, 0, 0, 0, chk a w v)

theorem swing_val (k : Nat) (hk : 5 < k) (a w v : Int) (l : List Int) : panel_Swing.f k a w v l = some (SW a w v l) := by
  unfold panel_Swing.f SW
  rw [check_val k (by omega), Option.bind_some]
  by_cases h : chk a w v = 0
  · rw [if_pos h, if_pos h]
    by_cases h1 : l.length > 1000
    · rw [if_pos h1, if_pos h1]
    · rw [if_neg h1, if_neg h1]
      by_cases h2 : okL l = true
      · rw [if_pos h2, if_pos h2, swing_total l a w v (chk_zero h)]; rfl
      · rw [if_neg h2, if_neg h2]
  · rw [if_neg h, if_neg h]

/-- How far a place is. -/
def dist (p a : Int) : Int := if a ≤ p then p - a else a - p
def LS (a w v p : Int) : Int × Int := if chk a w v = 0 then (if 0 ≤ p ∧ p ≤ w then (dist p a, 0) else (0, 2)) else (0, chk a w v)
theorem least_val (k : Nat) (hk : 5 < k) (a w v p : Int) : panel_Least.f k a w v p = some (LS a w v p) := by
  unfold panel_Least.f LS
  rw [check_val k (by omega), Option.bind_some]
  by_cases h : chk a w v = 0
  · have hb := (chk_zero h).1
    unfold Bnd at hb
    rw [if_pos h, if_pos h]
    by_cases h1 : 0 ≤ p ∧ p ≤ w
    · have e : mx p a - mn p a = dist p a := by unfold mx mn dist; (repeat' split) <;> omega
      have e2 : -20 ≤ dist p a ∧ dist p a ≤ 20 := by unfold dist; split <;> omega
      rw [if_pos h1, if_neg (by omega), if_neg (by omega), e, wrap_id _ (by omega) (by omega)]
    · rw [if_neg h1]
      by_cases h2 : p < 0
      · rw [if_pos h2]
      · rw [if_neg h2, if_pos (by omega)]
  · rw [if_neg h, if_neg h]
/-- The orders from the i-th on. -/
def ordF (g n : Int) : Nat → Int → List Int
  | 0, _ => []
  | d + 1, i => (if i < n then g else 3) :: ordF g n d (i + 1)
theorem ordF_len (g n : Int) : ∀ d i, (ordF g n d i).length = d
  | 0, _ => rfl
  | d + 1, i => by rw [ordF, List.length_cons, ordF_len g n d]
def goes (p a : Int) : Int := if p < a then 2 else 1
def OR (a w v p t : Int) : List Int × Int :=
  if (LS a w v p).2 = 0 then (if t < 0 ∨ t > 1000 then ([], 2) else if t < (LS a w v p).1 then ([], 3) else (ordF (goes p a) (LS a w v p).1 t.toNat 0, 0)) else ([], (LS a w v p).2)
theorem ord_loop (g n t : Int) (ht : t ≤ 1000) : ∀ (d k : Nat) (acc : List Int) (i : Int), 0 ≤ i → i + d = t → acc.length + d ≤ 1000 → d + 5 < k → panel_Orders.l0 k n g acc t i = some (acc ++ ordF g n d i, 0) := by
  intro d
  induction d with
  | zero =>
    intro k acc i h0 hi hl hk
    obtain ⟨k, rfl, _⟩ := succ_of hk
    rw [panel_Orders.l0, if_neg (by omega), ordF, List.append_nil]
  | succ d ih =>
    intro k acc i h0 hi hl hk
    obtain ⟨k, rfl, _⟩ := succ_of hk
    rw [panel_Orders.l0, if_pos (by omega), ordF, wrap_id (i + 1) (by omega) (by omega)]
    by_cases h : i < n
    · rw [if_pos h, if_pos (by omega), if_pos h, ih k (acc ++ [g]) (i + 1) (by omega) (by omega) (by simp; omega) (by omega), List.append_assoc]; rfl
    · rw [if_neg h, if_pos (by omega), if_neg h, ih k (acc ++ [3]) (i + 1) (by omega) (by omega) (by simp; omega) (by omega), List.append_assoc]; rfl
theorem ord_val (k : Nat) (hk : 1020 < k) (a w v p t : Int) : panel_Orders.f k a w v p t = some (OR a w v p t) := by
  obtain ⟨k, rfl, _⟩ := succ_of hk
  obtain ⟨k, rfl⟩ : ∃ m, k = m + 1 := ⟨k - 1, by omega⟩
  have h0 : ∀ b, panel_Orders.j0 (k + 1 + 1) p t (LS a w v p).1 b a w v = if b = true then some ([], 2) else if t < (LS a w v p).1 then some ([], 3) else panel_Orders.j1 (k + 1) t (LS a w v p).1 (goes p a) := by
    intro b
    rw [panel_Orders.j0]
    unfold goes
    by_cases h : p < a
    · rw [if_pos h, if_pos h]
    · rw [if_neg h, if_neg h]
  unfold panel_Orders.f OR
  rw [least_val _ (by omega), Option.bind_some]
  by_cases h : (LS a w v p).2 = 0
  · rw [if_pos h, if_pos h, h0, h0]
    by_cases h1 : t < 0
    · rw [if_pos h1, if_pos rfl, if_pos (.inl h1)]
    · rw [if_neg h1]
      by_cases h2 : t > 1000
      · rw [decide_eq_true h2, if_pos rfl, if_pos (.inr h2)]
      · rw [decide_eq_false h2, if_neg (show ¬ (false = true) by decide), if_neg (show ¬ (t < 0 ∨ t > 1000) by omega)]
        by_cases h3 : t < (LS a w v p).1
        · rw [if_pos h3, if_pos h3]
        · rw [if_neg h3, if_neg h3, panel_Orders.j1, ord_loop _ _ t (by omega) t.toNat k [] 0 (by omega) (by omega) (by simp; omega) (by omega)]; rfl
  · rw [if_neg h, if_neg h]
end Go.Proofs.Ytbkidegpgpccfaa.Pure
