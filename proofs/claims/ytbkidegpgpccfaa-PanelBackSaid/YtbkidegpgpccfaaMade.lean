/- A valid panel made of numbers. -/
import Derived.Test.YtbkidegpgpccfaaS11
import Derived.Test.YtbkidegpgpccfaaS10
import Derived.Test.YtbkidegpgpccfaaKit
import Derived.Test.YtbkidegpgpccfaaHswing
import Derived.Test.YtbkidegpgpccfaaPanP
namespace Go.Proofs.Ytbkidegpgpccfaa.Pure
open Go.RowKit Go.Proofs.Ytbkidegpgpccfaa.S Go.Proofs.YtbkidegpgpccfaaW.PrintWords Go.Proofs.YtbkidegpgpccfaaW.PrintLast
set_option linter.unusedVariables false
set_option linter.unusedSimpArgs false

theorem known_val : ∀ k, 100 ≤ k → tipstafflaw16_PanelKnown.f k = some true := fun _ hk => at_rounds tipstafflaw16_PanelKnown.mono hk (by decide +kernel)

theorem mod_nat (a : Int) (m : Nat) (hm : 1 ≤ m) : ∃ r : Nat, a % (m : Int) = r ∧ r < m :=
  ⟨(a % m).toNat, by have := Int.emod_nonneg a (show (m : Int) ≠ 0 by omega); omega, by have := Int.emod_lt_of_pos a (show (0 : Int) < m by omega); omega⟩

theorem swing_ok (l : List Int) : ∀ a w v, Valid a w v → okL l = true → ∃ xs, swingL l (a, w, v) = some xs ∧ xs.length = l.length ∧ Valid (lastP xs (a, w, v)).1 (lastP xs (a, w, v)).2.1 (lastP xs (a, w, v)).2.2 ∧ (lastP xs (a, w, v)).2.1 = w := by
  induction l with
  | nil => intro a w v h _; exact ⟨[], rfl, rfl, h, rfl⟩
  | cons o os ih =>
    intro a w v h hok
    have h1 := tw_valid h.1 o
    have hok2 : okL os = true := by simp only [okL, List.all_cons, Bool.and_eq_true] at hok; exact hok.2
    obtain ⟨xs, e1, e2, e3, e4⟩ := ih (a + tw a w v o) w (mw a w (tw a w v o)) (moved_valid h1) hok2
    refine ⟨(a + tw a w v o, w, mw a w (tw a w v o), mb a w (tw a w v o)) :: xs, ?_, by simp [e2], e3, e4⟩
    rw [swingL]
    show (panel_told.f a w v o).bind _ = _
    rw [told_val, Option.bind_some]
    show (panel_moved.f a w (tw a w v o)).bind _ = _
    rw [moved_val h1.1, Option.bind_some]
    show (swingL os (a + tw a w v o, w, mw a w (tw a w v o))).map _ = _
    rw [e1]; rfl

theorem swing_made (k : Nat) (hk : 5 < k) (a w v : Int) (l : List Int) (h : Valid a w v) (hl : l.length ≤ 1000) (hok : okL l = true) :
    ∃ a' v' u d, panel_Swing.f k a w v l = some (a', w, v', u, d, 0) ∧ Valid a' w v' := by
  obtain ⟨xs, e1, _, e3, e4⟩ := swing_ok l a w v h hok
  refine ⟨(lastP xs (a, w, v)).1, (lastP xs (a, w, v)).2.2, upsOf xs, downsOf xs, ?_, by rw [e4] at e3; exact e3⟩
  unfold panel_Swing.f
  rw [check_val k (by omega), Option.bind_some, if_pos (chk_ok h), if_neg (by omega), if_pos hok, e1, Option.map_some, e4]

theorem okL_snoc (l : List Int) (o : Int) (h : okL l = true) (ho : 0 ≤ o ∧ o < 5) : okL (l ++ [o]) = true := by
  simp only [okL, List.all_append, List.all_cons, List.all_nil, Bool.and_true, Bool.and_eq_true]
  exact ⟨h, by unfold poss; simp; omega⟩

theorem made_loop (l : List Int) (hl : ∀ x ∈ l, (Lit.int .i64 x).wf = true) (w : Int) (hw : 1 ≤ w ∧ w ≤ 20) : ∀ (d k i : Nat) (acc : List Int), i + d = 60 → i ≤ l.length → acc.length = i → okL acc = true → d + 20 < k →
    ∃ a v, tipstafflaw16_made.l0 k l 0 acc (i : Int) 0 w 0 = some (a, w, v, true) ∧ Valid a w v := by
  have h0 : Valid 0 w 0 := by refine ⟨by unfold Bnd; omega, by unfold Ends; omega⟩
  have fin : ∀ (k : Nat) (acc : List Int), 10 < k → acc.length ≤ 60 → okL acc = true → ∃ a v, ((panel_Swing.f k 0 w 0 acc).bind fun bt424 => (if (0 : Int) = 0 then (if bt424.2.2.2.2.2 = 0 then ((panel_Check.f k bt424.1 bt424.2.1 bt424.2.2.1).bind fun t431 => (if t431 = 0 then (some (bt424.1, bt424.2.1, bt424.2.2.1, (bt424.2.1 == w))) else (none))) else (none)) else (none))) = some (a, w, v, true) ∧ Valid a w v := by
    intro k acc hk hlen hok
    obtain ⟨a', v', u, d, e1, e2⟩ := swing_made k (by omega) 0 w 0 acc h0 (by omega) hok
    refine ⟨a', v', ?_, e2⟩
    rw [e1, Option.bind_some, if_pos rfl, if_pos rfl, check_val k (by omega), Option.bind_some, if_pos (chk_ok e2), beq_self_eq_true]
  intro d
  induction d with
  | zero =>
    intro k i acc hi hil hacc hok hk
    obtain ⟨k, rfl, _⟩ := succ_of hk
    have := fin k acc (by omega) (by omega) hok
    rw [tipstafflaw16_made.l0]
    by_cases h : (i : Int) < (l.length : Int)
    · rw [if_pos h, if_neg (by omega)]; exact this
    · rw [if_neg h]; exact this
  | succ d ih =>
    intro k i acc hi hil hacc hok hk
    obtain ⟨k, rfl, _⟩ := succ_of hk
    have := fin k acc (by omega) (by omega) hok
    rw [tipstafflaw16_made.l0]
    by_cases h : (i : Int) < (l.length : Int)
    · have hlt : i < l.length := by omega
      have hx := i64_of (hl l[i] (List.getElem_mem hlt))
      obtain ⟨o, ho, ho'⟩ := mod_nat l[i] 5 (by omega)
      rw [if_pos h, if_pos (by omega), if_pos (by omega), rd_nat l i hlt, mod_val _ 5 hx (by omega) (by omega), show l[i] % 5 = (o : Int) from ho, Option.bind_some, if_pos (by omega), wrap_succ i (by omega)]
      exact ih k (i + 1) (acc ++ [(o : Int)]) (by omega) (by omega) (by simp; omega) (okL_snoc _ _ hok (by omega)) (by omega)
    · rw [if_neg h]; exact this

theorem made_val (k : Nat) (hk : 90 < k) (x : Int) (hx : I64 x) (l : List Int) (hl : ∀ x ∈ l, (Lit.int .i64 x).wf = true) : ∃ a w v, tipstafflaw16_made.f k x l = some (a, w, v, true) ∧ Valid a w v := by
  obtain ⟨y, hy, hy'⟩ := mod_nat x 20 (by omega)
  unfold tipstafflaw16_made.f
  rw [mod_val x 20 hx (by omega) (by omega), show x % 20 = (y : Int) from hy, Option.bind_some, wrap_id (1 + (y : Int)) (by omega) (by omega)]
  have hn : panel_New.f (1 + (y : Int)) = some (0, 1 + (y : Int), 0, 0) := by unfold panel_New.f; rw [if_neg (by omega), if_neg (by omega)]
  rw [hn, Option.bind_some]
  obtain ⟨a, v, e1, e2⟩ := made_loop l hl (1 + (y : Int)) (by omega) 60 k 0 [] (by omega) (by omega) rfl rfl (by omega)
  exact ⟨a, _, v, e1, e2⟩

end Go.Proofs.Ytbkidegpgpccfaa.Pure
