/- A change of the held band back to the band before the last change needs a load that differs by more than Slack: for all numbers. -/
import Derived.Test.YtifcjlehbmbacaaS21
import Derived.Test.YtifcjlehbmbacaaRuns
namespace Go.Proofs.Ytifcjlehbmbacaa.Pure
open Go.RowKit Go.Proofs.Ytifcjlehbmbacaa.S Go.Proofs.YtifcjlehbmbacaaW.PrintWords Go.Proofs.YtifcjlehbmbacaaW.PrintLast
set_option linter.unusedVariables false
set_option linter.unusedSimpArgs false

/-- C are the changes of B up to i: each lies in range and is one; between two neighbours, and behind the last one, there is none. -/
structure Chg (B C : List Int) (i : Nat) : Prop where
  lt : ∀ j, j < C.length → 1 ≤ rd C (j : Int) ∧ rd C (j : Int) < i
  inc : ∀ j : Nat, j + 1 < C.length → rd C (j : Int) < rd C ((j + 1 : Nat) : Int)
  gap : ∀ j : Nat, j + 1 < C.length → ∀ t : Nat, rd C (j : Int) < t → (t : Int) < rd C ((j + 1 : Nat) : Int) → rd B (t : Int) = rd B ((t : Int) - 1)
  last : ∀ t : Nat, 1 ≤ t → t < i → (∀ j, j < C.length → rd C (j : Int) < t) → rd B (t : Int) = rd B ((t : Int) - 1)
  is : ∀ j, j < C.length → rd B (rd C (j : Int)) ≠ rd B (rd C (j : Int) - 1)

theorem rd_app_lt (C : List Int) (x : Int) (j : Nat) (h : j < C.length) : rd (C ++ [x]) (j : Int) = rd C (j : Int) := by
  rw [rd_nat _ _ (by simp; omega), rd_nat _ _ h, List.getElem_append_left]
theorem rd_app_eq (C : List Int) (x : Int) : rd (C ++ [x]) (C.length : Int) = x := by
  rw [rd_nat _ _ (by simp)]; simp

theorem changes_loop (B : List Int) (hB : B.length ≤ 2000) : ∀ (d k i : Nat) (C : List Int), i + d = B.length → 1 ≤ i → C.length ≤ i → d < k → Chg B C i →
    ∃ C', load_Changes.l0 k B C (i : Int) = some (C', 0) ∧ Chg B C' B.length ∧ C'.length ≤ B.length := by
  intro d
  induction d with
  | zero =>
    intro k i C hi h1 hC hk h
    obtain ⟨k, rfl, hk⟩ := succ_of hk
    unfold load_Changes.l0
    rw [if_neg (by omega)]
    have : i = B.length := by omega
    subst this
    exact ⟨C, rfl, h, hC⟩
  | succ d ih =>
    intro k i C hi h1 hC hk h
    obtain ⟨k, rfl, hk⟩ := succ_of hk
    unfold load_Changes.l0
    have e1 : wrap64 ((i : Int) - 1) = (i : Int) - 1 := wrap_id _ (by omega) (by omega)
    rw [if_pos (by omega), if_pos (by omega), e1, if_pos (by omega), if_pos (by omega), wrap_succ i (by omega)]
    by_cases he : rd B (i : Int) = rd B ((i : Int) - 1)
    · rw [if_pos he]
      refine ih k (i + 1) C (by omega) (by omega) (by omega) (by omega) ⟨fun j hj => ?_, h.inc, h.gap, fun t ht hti hlast => ?_, h.is⟩
      · have := h.lt j hj; omega
      · by_cases hti' : t < i
        · exact h.last t ht hti' hlast
        · have : t = i := by omega
          subst this; exact he
    · rw [if_neg he, if_pos (by omega)]
      refine ih k (i + 1) (C ++ [(i : Int)]) (by omega) (by omega) (by simp; omega) (by omega) ⟨fun j hj => ?_, fun j hj => ?_, fun j hj t ht ht' => ?_, fun t ht hti hlast => ?_, fun j hj => ?_⟩
      · by_cases hjc : j < C.length
        · rw [rd_app_lt C _ j hjc]; have := h.lt j hjc; omega
        · have : j = C.length := by simp at hj; omega
          subst this; rw [rd_app_eq]; omega
      · by_cases hjc : j + 1 < C.length
        · rw [rd_app_lt C _ j (by omega), rd_app_lt C _ (j + 1) hjc]; exact h.inc j hjc
        · have : j + 1 = C.length := by simp at hj; omega
          rw [rd_app_lt C _ j (by omega), this, rd_app_eq]; exact (h.lt j (by omega)).2
      · by_cases hjc : j + 1 < C.length
        · rw [rd_app_lt C _ j (by omega)] at ht
          rw [rd_app_lt C _ (j + 1) hjc] at ht'
          exact h.gap j hjc t ht ht'
        · have hj1 : j + 1 = C.length := by simp at hj; omega
          rw [rd_app_lt C _ j (by omega)] at ht
          rw [hj1, rd_app_eq] at ht'
          have h0 := h.lt j (by omega)
          refine h.last t (by omega) (by omega) (fun j' hj' => ?_)
          rcases Nat.lt_or_ge j' j with hlt | hge
          · -- increasing
            have mono : ∀ m, j' + m ≤ j → rd C (j' : Int) ≤ rd C ((j' + m : Nat) : Int) := by
              intro m
              induction m with
              | zero => intro _; exact Int.le_refl _
              | succ m ihm =>
                intro hm
                have := h.inc (j' + m) (by omega)
                have := ihm (by omega)
                have e : j' + (m + 1) = j' + m + 1 := by omega
                rw [e]; omega
            have := mono (j - j') (by omega)
            rw [show j' + (j - j') = j by omega] at this
            omega
          · have : j' = j := by omega
            subst this; exact ht
      · have := hlast C.length (by simp)
        rw [rd_app_eq] at this
        omega
      · by_cases hjc : j < C.length
        · rw [rd_app_lt C _ j hjc]; exact h.is j hjc
        · have : j = C.length := by simp at hj; omega
          subst this; rw [rd_app_eq]; exact he

/-- Behind a held band comes the held band of the load. -/
theorem heldL_rd (e f s : Int) : ∀ (l : List Int) (b : Int) (i : Nat), i < l.length →
    rd (heldL e f s b l) (i : Int) = hld e f s (if i = 0 then b else rd (heldL e f s b l) ((i : Int) - 1)) (rd l (i : Int))
  | [], b, i, h => by simp at h
  | n :: t, b, 0, h => by
    rw [if_pos rfl]; rfl
  | n :: t, b, i + 1, h => by
    have h' : i < t.length := by simpa using h
    have e1 : rd (heldL e f s b (n :: t)) ((i + 1 : Nat) : Int) = rd (heldL e f s (hld e f s b n) t) (i : Int) := by
      rw [rd_nat _ _ (by simp [heldL_length]; omega), rd_nat _ _ (by simp [heldL_length]; omega)]; simp [heldL]
    have e2 : rd (n :: t) ((i + 1 : Nat) : Int) = rd t (i : Int) := by
      rw [rd_nat _ _ (by simp; omega), rd_nat _ _ h']; simp
    rw [e1, e2, heldL_rd e f s t (hld e f s b n) i h', if_neg (Nat.succ_ne_zero i)]
    congr 1
    by_cases hi : i = 0
    · subst hi; rw [if_pos rfl]; rfl
    · rw [if_neg hi]
      have e3 : (((i + 1 : Nat) : Int) - 1) = ((i - 1 + 1 : Nat) : Int) := by omega
      have e4 : ((i : Int) - 1) = ((i - 1 : Nat) : Int) := by omega
      rw [e3, e4, rd_nat _ _ (by simp [heldL_length]; omega), rd_nat _ _ (by simp [heldL_length]; omega)]; first | rfl | simp [heldL]

theorem runL_rd (e f s : Int) (l : List Int) (i : Nat) (h1 : 1 ≤ i) (h : i < l.length) :
    rd (runL e f s l) (i : Int) = hld e f s (rd (runL e f s l) ((i : Int) - 1)) (rd l (i : Int)) := by
  cases l with
  | nil => simp at h
  | cons n t =>
    obtain ⟨i, rfl⟩ : ∃ m, i = m + 1 := ⟨i - 1, by omega⟩
    have h' : i < t.length := by simpa using h
    have e1 : rd (runL e f s (n :: t)) ((i + 1 : Nat) : Int) = rd (heldL e f s (bnd e f n) t) (i : Int) := by
      rw [rd_nat _ _ (by simp [runL, heldL_length]; omega), rd_nat _ _ (by simp [heldL_length]; omega)]; simp [runL]
    have e2 : rd (n :: t) ((i + 1 : Nat) : Int) = rd t (i : Int) := by
      rw [rd_nat _ _ (by simp; omega), rd_nat _ _ h']; simp
    rw [e1, e2, heldL_rd e f s t (bnd e f n) i h']
    congr 1
    by_cases hi : i = 0
    · subst hi; rw [if_pos rfl]; rfl
    · rw [if_neg hi]
      have e3 : (((i + 1 : Nat) : Int) - 1) = ((i - 1 + 1 : Nat) : Int) := by omega
      have e4 : ((i : Int) - 1) = ((i - 1 : Nat) : Int) := by omega
      rw [e3, e4, rd_nat _ _ (by simp [heldL_length]; omega), rd_nat _ _ (by simp [runL, heldL_length]; omega)]; first | rfl | simp [runL]

theorem runL_rng (e f s : Int) (l : List Int) (i : Nat) (h : i < l.length) : 1 ≤ rd (runL e f s l) (i : Int) ∧ rd (runL e f s l) (i : Int) ≤ 3 := by
  by_cases h1 : 1 ≤ i
  · rw [runL_rd e f s l i h1 h]; exact hld_rng _ _ _ _ _
  · have : i = 0 := by omega
    subst this
    cases l with
    | nil => simp at h
    | cons n t => exact bnd_rng e f n

/-- The heart: from band X to Y at the load a, and from Y back to X at the load b. -/
theorem slow_heart {e f s X Y a b : Int} (hc : chk e f s = 0) (hX : 1 ≤ X) (hX' : X ≤ 3) (h1 : Y = hld e f s X a) (h2 : X = hld e f s Y b) (hne : Y ≠ X) : ¬ (b - a ≤ s ∧ -(b - a) ≤ s) := by
  have := chk_zero hc
  unfold hld bnd at h1 h2
  (repeat' split at h1) <;> (repeat' split at h2) <;> omega

theorem slow_loop (e f s : Int) (hc : chk e f s = 0) (l : List Int) (hl : l.length ≤ 40) (hr : ∀ i : Nat, i < l.length → 0 ≤ rd l (i : Int) ∧ rd l (i : Int) < 200) (C : List Int) (hC : Chg (runL e f s l) C l.length) (hCl : C.length ≤ l.length) :
    ∀ (d k i : Nat), i + d = C.length → 2 * d + 200 < k → tipstafflaw11_LoadSlow.l1 k l C (runL e f s l) (i : Int) e f s = some true := by
  have hB : (runL e f s l).length = l.length := runL_length e f s l
  have hcz := chk_zero hc
  intro d
  induction d with
  | zero =>
    intro k i hi hk
    obtain ⟨k, rfl, hk⟩ := succ_of hk
    rw [tipstafflaw11_LoadSlow.l1]
    rw [if_neg (by omega), awake_val _ (by omega)]; rfl
  | succ d ih =>
    intro k i hi hk
    obtain ⟨k, rfl, hk⟩ := succ_of hk
    obtain ⟨k, rfl, hk⟩ := succ_of (k := k) (d := 2 * d + 200) (by omega)
    have hci := hC.lt i (by omega)
    have next : tipstafflaw11_LoadSlow.l1 k l C (runL e f s l) (wrap64 ((i : Int) + 1)) e f s = some true := by
      rw [wrap_succ i (by omega)]; exact ih k (i + 1) (by omega) (by omega)
    rw [tipstafflaw11_LoadSlow.l1]
    rw [if_pos (by omega), if_pos (by omega), if_neg (by omega), if_neg (by omega)]
    by_cases h0 : i = 0
    · subst h0
      rw [if_neg (by omega)]
      rw [tipstafflaw11_LoadSlow.j4]
      rw [if_neg (by decide), if_pos (by omega), next]
    · have e1 : wrap64 ((i : Int) - 1) = ((i - 1 : Nat) : Int) := by rw [wrap_id _ (by omega) (by omega)]; omega
      have hinc := hC.inc (i - 1) (by omega)
      rw [show i - 1 + 1 = i by omega] at hinc
      have hca := hC.lt (i - 1) (by omega)
      have hgap := hC.gap (i - 1) (by omega)
      rw [show i - 1 + 1 = i by omega] at hgap
      have hisb := hC.is i (by omega)
      have hisa := hC.is (i - 1) (by omega)
      rw [if_pos (by omega), e1, if_pos (by omega), if_pos (by omega), decide_eq_false (by omega)]
      rw [tipstafflaw11_LoadSlow.j4]
      rw [if_neg (by decide), if_neg (by omega), e1]
      generalize rd C (i : Int) = b at *
      generalize rd C ((i - 1 : Nat) : Int) = a at *
      have e2 : wrap64 (a - 1) = a - 1 := wrap_id _ (by omega) (by omega)
      obtain ⟨bn, rfl⟩ : ∃ n : Nat, b = n := ⟨b.toNat, by omega⟩
      obtain ⟨an, rfl⟩ : ∃ n : Nat, a = n := ⟨a.toNat, by omega⟩
      have ra := hr an (by omega)
      have rb := hr bn (by omega)
      have e3 : wrap64 (rd l (bn : Int) - rd l (an : Int)) = rd l (bn : Int) - rd l (an : Int) := wrap_id _ (by omega) (by omega)
      have e4 : wrap64 (-(rd l (bn : Int) - rd l (an : Int))) = -(rd l (bn : Int) - rd l (an : Int)) := wrap_id _ (by omega) (by omega)
      rw [if_pos (by omega), if_pos (by omega), if_pos (by omega), if_pos (by omega), if_pos (by omega), if_pos (by omega), if_pos (by omega), e2, if_pos (by omega), if_pos (by omega), e3, e4]
      by_cases hX : rd (runL e f s l) (bn : Int) = rd (runL e f s l) ((an : Int) - 1)
      · have const : ∀ m, an + m < bn → rd (runL e f s l) ((an + m : Nat) : Int) = rd (runL e f s l) (an : Int) := by
          intro m
          induction m with
          | zero => intro _; rfl
          | succ m ihm =>
            intro hm
            have h1 := hgap (an + (m + 1)) (by omega) (by omega)
            rw [h1, show ((an + (m + 1) : Nat) : Int) - 1 = ((an + m : Nat) : Int) by omega]
            exact ihm (by omega)
        have hc1 := const (bn - 1 - an) (by omega)
        rw [show an + (bn - 1 - an) = bn - 1 by omega] at hc1
        have h1 := runL_rd e f s l an (by omega) (by omega)
        have h2 := runL_rd e f s l bn (by omega) (by omega)
        rw [show ((bn : Int) - 1) = ((bn - 1 : Nat) : Int) by omega, hc1, hX] at h2
        have hrg := runL_rng e f s l (an - 1) (by omega)
        rw [show ((an - 1 : Nat) : Int) = (an : Int) - 1 by omega] at hrg
        have hh := slow_heart hc hrg.1 hrg.2 h1 h2 hisa
        rw [if_pos hX]
        by_cases h5 : rd l (bn : Int) - rd l (an : Int) ≤ s
        · rw [if_pos h5, if_neg (by omega), next]
        · rw [if_neg h5, next]
      · rw [if_neg hX, next]

theorem nums_loop (nums : List Int) (hn : nums.length ≤ maxLen) (hw : ∀ x ∈ nums, (Lit.int .i64 x).wf = true) (e f s : Int) :
    ∀ (d i : Nat) (acc : List Int), i + d = min nums.length 40 → acc.length = i → (∀ x ∈ acc, 0 ≤ x ∧ x < 200) →
    ∃ l : List Int, l.length ≤ 40 ∧ (∀ x ∈ l, 0 ≤ x ∧ x < 200) ∧ ∀ k, tipstafflaw11_LoadSlow.l0 (k + d + 1) nums acc (i : Int) e f s = tipstafflaw11_LoadSlow.j1 k l e f s := by
  intro d
  unfold maxLen at hn
  induction d with
  | zero =>
    intro i acc hi ha hx
    refine ⟨acc, by omega, hx, fun k => ?_⟩
    rw [tipstafflaw11_LoadSlow.l0]
    by_cases h : (i : Int) < nums.length
    · rw [if_pos h, if_neg (by omega)]
    · rw [if_neg h]
  | succ d ih =>
    intro i acc hi ha hx
    have hm := mod_val (rd nums (i : Int)) 200 (by rw [rd_nat nums i (by omega)]; exact i64_of (hw _ (List.getElem_mem _))) (by omega) (by omega)
    have h0 := Int.emod_nonneg (rd nums (i : Int)) (show (200 : Int) ≠ 0 by omega)
    have h1 := Int.emod_lt_of_pos (rd nums (i : Int)) (show (0 : Int) < 200 by omega)
    obtain ⟨l, hl, hlx, hk⟩ := ih (i + 1) (acc ++ [rd nums (i : Int) % 200]) (by omega) (by simp [ha]) (by
      intro x hxm
      rcases List.mem_append.1 hxm with h | h
      · exact hx x h
      · rw [List.mem_singleton.1 h]; exact ⟨h0, h1⟩)
    refine ⟨l, hl, hlx, fun k => ?_⟩
    rw [← hk k]
    conv => lhs; rw [tipstafflaw11_LoadSlow.l0]
    rw [if_pos (by omega), if_pos (by omega), if_pos (by omega), hm]
    simp only [Option.bind_some, if_true, if_false]
    rw [if_pos (by omega), wrap_succ i (by omega)]
    rfl

theorem LoadSlow : tipstafflaw11_LoadSlow.Pure := by
  intro a0 nums w0 hn _ hw
  obtain ⟨e, f, s, hm, he0, he1, hs0, hs1, hf0, hf1⟩ := made_val a0 (i64_of w0)
  have hc := chk_made ⟨he0, he1, hs0, hs1, hf0, hf1⟩
  obtain ⟨l, hl, hlx, hk⟩ := nums_loop nums hn hw e f s (min nums.length 40) 0 [] (by omega) rfl (by simp)
  obtain ⟨K, hK⟩ : ∃ K : Nat, K = 5000 := ⟨_, rfl⟩
  refine ⟨K + 1 + 1 + min nums.length 40 + 1, ?_⟩
  unfold tipstafflaw11_LoadSlow.f
  rw [hm]; simp only [Option.bind_some, if_true, if_false]
  rw [show ((0 : Nat) : Int) = 0 from rfl] at hk
  rw [hk]
  rw [tipstafflaw11_LoadSlow.j1]
  have hB : (runL e f s l).length = l.length := runL_length e f s l
  have hld0 : loadsV l = 0 := by
    unfold loadsV
    rw [if_pos]
    simp only [List.all_eq_true]
    intro x hx
    have := hlx x hx
    unfold isL; simp; omega
  have hrun : runV e f s l = (runL e f s l, 0) := by
    unfold runV; rw [if_pos hc, if_neg (by omega), if_pos hld0]
  have h0 : Chg (runL e f s l) [] 1 := ⟨fun j hj => by simp at hj, fun j hj => by simp at hj, fun j hj => by simp at hj, fun t ht ht' => by omega, fun j hj => by simp at hj⟩
  have hch : ∃ C, load_Changes.l0 (K + 1) (runL e f s l) [] 1 = some (C, 0) ∧ Chg (runL e f s l) C l.length ∧ C.length ≤ l.length := by
    by_cases hz : l.length = 0
    · refine ⟨[], ?_, ⟨fun j hj => by simp at hj, fun j hj => by simp at hj, fun j hj => by simp at hj, fun t ht ht' => by omega, fun j hj => by simp at hj⟩, by simp⟩
      unfold load_Changes.l0
      rw [if_neg (by omega)]
    · obtain ⟨C, h1, h2, h3⟩ := changes_loop (runL e f s l) (by omega) (l.length - 1) (K + 1) 1 [] (by omega) (by omega) (by simp) (by omega) h0
      rw [hB] at h2 h3
      exact ⟨C, h1, h2, h3⟩
  obtain ⟨C, h1, h2, h3⟩ := hch
  have hchg : load_Changes.f (K + 1) e f s l = some (C, 0) := by
    unfold load_Changes.f
    rw [run_val e f s l (by omega), hrun]
    simp only [Option.bind_some, if_true, if_false]
    rw [h1]
  rw [hchg, run_val e f s l (by omega), hrun]
  simp only [Option.bind_some, if_true, if_false]
  rw [tipstafflaw11_LoadSlow.j2]
  rw [if_neg (by simp [hB])]
  have hr : ∀ i : Nat, i < l.length → 0 ≤ rd l (i : Int) ∧ rd l (i : Int) < 200 := fun i hi => by
    rw [rd_nat l i hi]; exact hlx _ (List.getElem_mem _)
  exact slow_loop e f s hc l hl hr C h2 h3 C.length K 0 (by omega) (by omega)

end Go.Proofs.Ytifcjlehbmbacaa.Pure
