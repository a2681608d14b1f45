/- What Orders returns brings a panel to a place, and nothing does it in fewer ticks than Least says: for all numbers. -/
import Derived.Test.YtbkidegpgpccfaaS24
import Derived.Test.YtbkidegpgpccfaaMade
import Derived.Test.YtbkidegpgpccfaaPanS
import Derived.Test.YtbkidegpgpccfaaPanL
namespace Go.Proofs.Ytbkidegpgpccfaa.Pure
open Go.RowKit Go.Proofs.Ytbkidegpgpccfaa.S Go.Proofs.YtbkidegpgpccfaaW.PrintWords Go.Proofs.YtbkidegpgpccfaaW.PrintLast
set_option linter.unusedVariables false
set_option linter.unusedSimpArgs false

theorem lead_mw (a w v : Int) : mw a w v = if v > 0 ∧ a + v = w ∨ v < 0 ∧ a + v = 0 then 0 else v := by
  unfold mw
  by_cases h : Ends (a + v) w v
  · rw [if_pos h]; exact (if_pos h).symm
  · rw [if_neg h]; exact (if_neg h).symm
theorem lead_tw (a w v o : Int) : tw a w v o = if turned o v > 0 ∧ a = w ∨ turned o v < 0 ∧ a = 0 then 0 else turned o v := by
  unfold tw
  by_cases h : Ends a w (turned o v)
  · rw [if_pos h]; exact (if_pos h).symm
  · rw [if_neg h]; exact (if_neg h).symm

theorem ordF_ok (g n : Int) (hg : g = 1 ∨ g = 2) : ∀ d i, okL (ordF g n d i) = true
  | 0, _ => rfl
  | d + 1, i => by
    rw [ordF]
    simp only [okL, List.all_cons, Bool.and_eq_true]
    refine ⟨?_, ordF_ok g n hg d (i + 1)⟩
    unfold poss
    split <;> simp <;> omega

theorem lead_swing (p w : Int) (g n : Int) (hp : 0 ≤ p ∧ p ≤ w) : ∀ (d : Nat) (i a v : Int), Valid a w v → n - i ≤ d → 
    (i < n → (g = 1 ∧ a + (n - i) = p ∨ g = 2 ∧ a - (n - i) = p)) → (n ≤ i → a = p) → (lastV (ordF g n d i) a w v).1 = p := by
  intro d
  induction d with
  | zero =>
    intro i a v h hd h1 h2
    exact h2 (by omega)
  | succ d ih =>
    intro i a v h hd h1 h2
    have hb := h.1
    unfold Bnd at hb
    rw [ordF, lastV_cons]
    by_cases hi : i < n
    · have h1 := h1 hi
      rw [if_pos hi]
      have e : a + tw a w v g = if g = 1 then a + 1 else a - 1 := by
        rw [lead_tw]
        rcases h1 with ⟨rfl, h1⟩ | ⟨rfl, h1⟩
        · have : turned 1 v = 1 := rfl
          rw [this, if_neg (by omega)]; rfl
        · have : turned 2 v = -1 := rfl
          rw [this, if_neg (by omega)]; rfl
      refine ih (i + 1) _ _ (moved_valid (tw_valid h.1 g)) (by omega) (fun h3 => ?_) (fun h3 => ?_)
      · rw [e]
        rcases h1 with ⟨rfl, h1⟩ | ⟨rfl, h1⟩
        · left; exact ⟨rfl, by rw [if_pos rfl]; omega⟩
        · right; exact ⟨rfl, by rw [if_neg (by decide)]; omega⟩
      · rw [e]
        rcases h1 with ⟨rfl, h1⟩ | ⟨rfl, h1⟩
        · rw [if_pos rfl]; omega
        · rw [if_neg (by decide)]; omega
    · rw [if_neg hi]
      have ht : tw a w v 3 = 0 := by
        rw [lead_tw]
        have : turned 3 v = 0 := rfl
        rw [this, if_neg (by omega)]
      rw [ht]
      have hp2 := h2 (by omega)
      have hv := moved_valid (tw_valid h.1 3)
      rw [ht] at hv
      exact ih (i + 1) _ _ hv (by omega) (fun h3 => absurd h3 (by omega)) (fun _ => by omega)

theorem leads_loop (x : Int) (l : List Int) (hl : ∀ y ∈ l, (Lit.int .i64 y).wf = true) (hlm : l.length ≤ 9223372036854775807) (n : Int) (w : Int) (hn : n ≤ 20) : ∀ (d k : Nat) (i a v : Int), 1 ≤ i → (n - i).toNat = d → Valid a w v → n - i + 1 ≤ dist x a → d + 20 < k →
    tipstafflaw16_PanelLeads.l0 k x l true n i a w v = some true := by
  intro d
  induction d with
  | zero =>
    intro k i a v hi hd h hx hk
    obtain ⟨k, rfl, _⟩ := succ_of hk
    rw [tipstafflaw16_PanelLeads.l0, if_neg (by omega)]
  | succ d ih =>
    intro k i a v hi hd h hx hk
    obtain ⟨k, rfl, _⟩ := succ_of hk
    obtain ⟨y, hy, hyw⟩ : ∃ y, tipstaffkit_At.f l i = some y ∧ I64 y := by
      unfold tipstaffkit_At.f
      rw [if_neg (by omega)]
      by_cases h1 : i ≥ (l.length : Int)
      · rw [if_pos h1]; exact ⟨0, rfl, by unfold I64; omega⟩
      · obtain ⟨j, rfl⟩ := Int.eq_ofNat_of_zero_le (show 0 ≤ i by omega)
        have hj : j < l.length := by omega
        rw [if_neg h1, if_pos (by omega), if_pos (by omega), rd_nat l j hj]
        exact ⟨_, rfl, i64_of (hl _ (List.getElem_mem hj))⟩
    obtain ⟨o, ho, ho'⟩ := mod_nat y 5 (by omega)
    have ht := tw_valid h.1 (o : Int)
    have hm := moved_valid ht
    have htb := ht.1
    unfold Bnd at htb
    have oo : panel_Order.f k a w v (o : Int) = some (a, w, tw a w v o, 0) := by rw [order_val _ (by omega), if_pos (chk_ok h), if_pos (by omega)]
    have ss : panel_Step.f k a w (tw a w v o) = some (a + tw a w v o, w, mw a w (tw a w v o), mb a w (tw a w v o), 0) := by rw [step_val _ (by omega), if_pos (chk_ok ht)]
    have hd2 : n - (i + 1) + 1 ≤ dist x (a + tw a w v o) := by
      unfold dist at *
      split at hx <;> split <;> omega
    have hne : ¬ a + tw a w v o = x := by
      intro e
      rw [e] at hd2
      unfold dist at hd2
      rw [if_pos (by omega)] at hd2
      omega
    rw [tipstafflaw16_PanelLeads.l0, if_pos (by omega), hy, Option.bind_some, mod_val y 5 hyw (by omega) (by omega), show y % 5 = (o : Int) from ho, Option.bind_some, oo, Option.bind_some, ss, Option.bind_some, if_pos rfl, if_pos rfl, if_neg hne, wrap_id (i + 1) (by omega) (by omega)]
    exact ih k (i + 1) _ _ (by omega) (by omega) hm hd2 (by omega)

theorem dist_bnd (x a w : Int) (hx : 0 ≤ x ∧ x ≤ w) (ha : 0 ≤ a ∧ a ≤ w) : 0 ≤ dist x a ∧ dist x a ≤ w := by
  unfold dist; split <;> omega

theorem PanelLeads : tipstafflaw16_PanelLeads.Pure := by
  intro y0 l1 y2 y3 l4 w0 _ _ hl1 w2 w3 h4a _ hl4
  obtain ⟨K, hK⟩ : ∃ K : Nat, K = 2000 := ⟨_, rfl⟩
  refine ⟨K + 1 + 1 + 1, ?_⟩
  obtain ⟨a, w, v, e1, hv⟩ := made_val (K + 1 + 1 + 1) (by omega) y0 (i64_of w0) l1 hl1
  have hb := hv.1
  unfold Bnd at hb
  obtain ⟨W, rfl⟩ := Int.eq_ofNat_of_zero_le (show 0 ≤ w by omega)
  obtain ⟨x, hx, hx'⟩ := mod_nat y2 (W + 1) (by omega)
  obtain ⟨m, hm, hm'⟩ := mod_nat y3 20 (by omega)
  have hd := dist_bnd (x : Int) a W (by omega) (by omega)
  have hLS : LS a W v (x : Int) = (dist x a, 0) := by unfold LS; rw [if_pos (chk_ok hv), if_pos (by omega)]
  have hOR : ∀ t : Int, 0 ≤ t → t ≤ 1000 → OR a W v (x : Int) t = if t < dist x a then ([], 3) else (ordF (goes x a) (dist x a) t.toNat 0, 0) := by
    intro t h0 h1
    unfold OR
    rw [hLS, if_pos rfl, if_neg (show ¬ (t < 0 ∨ t > 1000) by omega)]
  have hg : goes (x : Int) a = 1 ∨ goes (x : Int) a = 2 := by unfold goes; split <;> simp
  obtain ⟨T, hT⟩ : ∃ T : Nat, (T : Int) = dist x a + m := ⟨(dist x a + m).toNat, by omega⟩
  have hsw : ∀ k, 5 < k → ∃ r2 r3 r4 r5, panel_Swing.f k a W v (ordF (goes x a) (dist x a) T 0) = some ((x : Int), r2, r3, r4, r5, 0) := by
    intro k hk
    refine ⟨(lastV (ordF (goes (x : Int) a) (dist (x : Int) a) T 0) a W v).2.1, (lastV (ordF (goes (x : Int) a) (dist (x : Int) a) T 0) a W v).2.2, (swL (ordF (goes (x : Int) a) (dist (x : Int) a) T 0) a W v).foldl upF 0, (swL (ordF (goes (x : Int) a) (dist (x : Int) a) T 0) a W v).foldl downF 0, ?_⟩
    rw [swing_val k hk]
    unfold SW
    rw [if_pos (chk_ok hv), if_neg (by rw [ordF_len]; omega), if_pos (ordF_ok _ _ hg _ _)]
    rw [lead_swing (x : Int) W (goes x a) (dist x a) (by omega) T 0 a v hv (by omega) (fun h => by
      unfold goes dist at *
      by_cases hc : (x : Int) < a
      · rw [if_pos hc]; right; rw [if_neg (by omega)]; exact ⟨rfl, by omega⟩
      · rw [if_neg hc]; left; rw [if_pos (by omega)]; exact ⟨rfl, by omega⟩) (fun h => by unfold dist at h; split at h <;> omega)]
  obtain ⟨r2, r3, r4, r5, hsw⟩ := hsw (K + 1 + 1) (by omega)
  have hloop := leads_loop (x : Int) l4 hl4 (by unfold maxLen at h4a; omega) (dist x a) W (by omega) _ K 1 a v (by omega) rfl hv (by omega) (by omega)
  have hj2 : tipstafflaw16_PanelLeads.j2 (K + 1) (x : Int) l4 true (dist x a) false a W v = some true := by
    rw [tipstafflaw16_PanelLeads.j2, if_neg (by decide)]; exact hloop
  unfold tipstafflaw16_PanelLeads.f
  rw [known_val _ (by omega), Option.bind_some, e1, Option.bind_some, if_pos rfl, wrap_id ((W : Int) + 1) (by omega) (by omega), show ((W : Int) + 1) = ((W + 1 : Nat) : Int) by omega, mod_val y2 _ (i64_of w2) (by omega) (by omega), hx, Option.bind_some, least_val _ (by omega), hLS, Option.bind_some, if_pos rfl, if_neg (by omega), decide_eq_false (show ¬ (dist (x : Int) a > (W : Int)) by omega)]
  rw [tipstafflaw16_PanelLeads.j0, if_neg (by decide), mod_val y3 20 (i64_of w3) (by omega) (by omega), show y3 % 20 = (m : Int) from hm, Option.bind_some, wrap_id (dist x a + (m : Int)) (by omega) (by omega), ord_val _ (by omega), hOR _ (by omega) (by omega), if_neg (by omega), Option.bind_some, ← hT, Int.toNat_natCast, hsw, Option.bind_some, if_pos rfl, if_pos rfl, bne_self_eq_false]
  rw [tipstafflaw16_PanelLeads.j1, if_neg (by decide), ord_val _ (by omega), Option.bind_some]
  by_cases hn : dist (x : Int) a > 0
  · rw [if_pos hn, wrap_id (dist (x : Int) a - 1) (by omega) (by omega), hOR _ (by omega) (by omega), if_pos (by omega), bne_self_eq_false]
    exact hj2
  · rw [if_neg hn]
    exact hj2

end Go.Proofs.Ytbkidegpgpccfaa.Pure
