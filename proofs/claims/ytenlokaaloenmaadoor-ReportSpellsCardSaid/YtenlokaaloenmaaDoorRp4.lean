/- How often a car opens at a floor: the program's answer. -/
import Derived.Test.YtenlokaaloenmaaDoorM4
import Derived.Test.YtenlokaaloenmaaDoorS5
namespace Go.Proofs.YtenlokaaloenmaaDoor.Pure
open Go.RowKit Go.Proofs.YtenlokaaloenmaaDoor.S Go.Proofs.YtenlokaaloenmaaDoorW.PrintWords Go.Proofs.YtenlokaaloenmaaDoorW.PrintLast
set_option linter.unusedVariables false
set_option linter.unusedSimpArgs false
set_option linter.unusedVariables false

/-- Whether a car is open at a floor in a view. -/
def isO (l : List S41) (c f w : Int) (i : Nat) : Bool :=
  if (rd_T43 (rd_T41 l (i : Int)).f2 (c - 1)).f0 ≥ 0 ∧ (rd_T43 (rd_T41 l (i : Int)).f2 (c - 1)).f1 = w then (rd_T43 (rd_T41 l (i : Int)).f2 (c - 1)).f0 == f else false
def visF (l : List S41) (c f w : Int) : Nat → Nat → Bool → Nat → Nat
  | 0, _, _, n => n
  | d + 1, i, was, n => visF l c f w d (i + 1) (isO l c f w i) (if isO l c f w i = true ∧ was = false then n + 1 else n)
def visBad (l : List S41) (c f w : Int) : Prop := l.length = 0 ∨ c < 1 ∨ c > ((rd_T41 l 0).f2.length : Int) ∨ f < 0 ∨ 63 < f ∨ w < 1 ∨ 20 < w
instance (l : List S41) (c f w : Int) : Decidable (visBad l c f w) := by unfold visBad; infer_instance
def visV (l : List S41) (c f w : Int) : Int × Int :=
  if (chk l).1 = 0 then (if visBad l c f w then (0, 2) else ((visF l c f w l.length 0 false 0 : Nat), 0)) else (0, (chk l).1)

theorem ite_le1 (p : Prop) [Decidable p] (n : Nat) : (if p then n + 1 else n) ≤ n + 1 := by
  by_cases h : p
  · rw [if_pos h]; exact Nat.le_refl _
  · rw [if_neg h]; omega
theorem visL_ev {l : List S41} (ok : OkL l) (c f w : Int) (hc : 1 ≤ c) (hc2 : c ≤ ((rd_T41 l 0).f2.length : Int)) : ∀ (d i : Nat) (was : Bool) (n : Nat), d = l.length - i → i ≤ l.length → n ≤ i →
    Ev (fun k => report_Visits.l0 k c f w (n : Int) was l (l.length : Int) (i : Int)) ((visF l c f w d i was n : Nat), 0) := by
  intro d
  induction d with
  | zero =>
    intro i was n hd hi hn
    rw [visF]
    exact Ev.step (Ev.const ((n : Int), 0)) (fun k => by rw [report_Visits.l0, if_neg (by omega)])
  | succ d IH =>
    intro i was n hd hi hn
    have hl := ok.len
    have hm := (ok.v _ (memV l i (by omega))).n
    have hw1 : wrap64 ((i : Int) + 1) = ((i + 1 : Nat) : Int) := wrap_succ i (by omega)
    have hm8 := (ok.v _ (memV l i (by omega))).m8
    have hwc : wrap64 (c - 1) = c - 1 := wrap_id _ (by omega) (by omega)
    have hwn : wrap64 ((n : Int) + 1) = ((n + 1 : Nat) : Int) := wrap_succ n (by omega)
    have hd1 : d = l.length - (i + 1) := by omega
    have hi1 : i + 1 ≤ l.length := by omega
    rw [visF]
    obtain ⟨s, hs⟩ : ∃ s, rd_T43 (rd_T41 l (i : Int)).f2 (c - 1) = s := ⟨_, rfl⟩
    have ih := IH (i + 1) (isO l c f w i) (if isO l c f w i = true ∧ was = false then n + 1 else n) hd1 hi1 (Nat.le_trans (ite_le1 _ n) (Nat.succ_le_succ hn))
    refine ih.step (fun k => ?_)
    rw [report_Visits.l0, if_pos (by omega), if_pos (by omega), if_pos (by omega), hwc, if_pos (by omega), if_pos (by omega), hs, hw1]
    have e : isO l c f w i = (if s.f0 ≥ 0 ∧ s.f1 = w then s.f0 == f else false) := by unfold isO; rw [hs]
    unfold report_open.f
    by_cases h0 : s.f0 ≥ 0
    · rw [if_pos h0, Option.bind_some]
      by_cases h1 : s.f1 = w
      · rw [if_pos (show s.f0 ≥ 0 ∧ s.f1 = w from ⟨h0, h1⟩)] at e
        rw [if_pos (show (s.f1 == w) = true by simpa using h1)]
        by_cases h2 : s.f0 = f
        · have e2 : (s.f0 == f) = true := by simpa using h2
          rw [e2] at e
          rw [if_pos h2, e2, e]
          cases was with
          | true => rw [if_pos rfl, if_neg (show ¬ (true = true ∧ true = false) by decide)]
          | false => rw [if_neg (show ¬ (false = true) by decide), if_pos (show true = true ∧ false = false from ⟨rfl, rfl⟩), hwn]
        · have e2 : (s.f0 == f) = false := by simpa using h2
          rw [e2] at e
          rw [if_neg h2, e2, e, if_neg (show ¬ (false = true ∧ was = false) from fun h => by cases h.1)]
      · rw [if_neg (show ¬ (s.f0 ≥ 0 ∧ s.f1 = w) from fun h => h1 h.2)] at e
        rw [if_neg (show ¬ (s.f1 == w) = true by simpa using h1), e, if_neg (show ¬ (false = true ∧ was = false) from fun h => by cases h.1)]
    · rw [if_neg (show ¬ (s.f0 ≥ 0 ∧ s.f1 = w) from fun h => h0 h.1)] at e
      rw [if_neg h0, Option.bind_some, if_neg (show ¬ (false = true) by decide), e, if_neg (show ¬ (false = true ∧ was = false) from fun h => by cases h.1)]

def visRest (l : List S41) (c f w : Int) (e : Int × Int) (k : Nat) : Option (Int × Int) :=
  if e.1 = 0 then (if (l.length : Int) = 0 then (report_Visits.j0 k l c f w true) else (if c < 1 then (report_Visits.j0 k l c f w true) else (if 0 < (l.length : Int) then (if c > (((rd_T41 l 0).f2).length : Int) then (report_Visits.j0 k l c f w true) else (if f < 0 then (report_Visits.j0 k l c f w true) else (if f ≥ 64 then (report_Visits.j0 k l c f w true) else (if w < 1 then (report_Visits.j0 k l c f w true) else (report_Visits.j0 k l c f w (decide (w > 20))))))) else (none)))) else (some (0, e.1))
theorem visits_ev (l : List S41) (hw : ∀ v ∈ l, WV v) (c f w : Int) : Ev (fun k => report_Visits.f k l c f w) (visV l c f w) := by
  refine Ev.congr (g' := fun k => (report_Check.f k l).bind fun e => visRest l c f w e k) (Ev.bind (f := fun e k => visRest l c f w e k) (check_ev l hw) ?_) (fun k => by unfold report_Visits.f visRest; rfl)
  unfold visV
  by_cases h0 : (chk l).1 = 0
  · rw [if_pos h0]
    have ok : OkL l := chk_ok (x := (chk l).2) (by rw [← h0])
    have bad : Ev (fun k => report_Visits.j0 k l c f w true) (0, 2) := Ev.step (Ev.const (0, 2)) (fun k => by rw [report_Visits.j0, if_pos rfl])
    have good : ¬ visBad l c f w → Ev (fun k => report_Visits.j0 k l c f w false) ((visF l c f w l.length 0 false 0 : Nat), 0) := by
      intro hb
      unfold visBad at hb
      have h := visL_ev ok c f w (by omega) (by omega) l.length 0 false 0 (by omega) (by omega) (by omega)
      simp only [Int.natCast_zero] at h
      exact h.step (fun k => by rw [report_Visits.j0, if_neg (show ¬ (false = true) by decide)])
    by_cases hb : visBad l c f w
    · rw [if_pos hb]
      unfold visBad at hb
      refine Ev.congr bad (fun k => ?_)
      rw [visRest, if_pos h0]
      by_cases h1 : (l.length : Int) = 0
      · rw [if_pos h1]
      rw [if_neg h1]
      by_cases h2 : c < 1
      · rw [if_pos h2]
      rw [if_neg h2, if_pos (by omega)]
      by_cases h3 : c > ((rd_T41 l 0).f2.length : Int)
      · rw [if_pos h3]
      rw [if_neg h3]
      by_cases h4 : f < 0
      · rw [if_pos h4]
      rw [if_neg h4]
      by_cases h5 : f ≥ 64
      · rw [if_pos h5]
      rw [if_neg h5]
      by_cases h6 : w < 1
      · rw [if_pos h6]
      rw [if_neg h6, decide_eq_true (by omega)]
    · rw [if_neg hb]
      have g := good hb
      unfold visBad at hb
      refine Ev.congr g (fun k => ?_)
      rw [visRest, if_pos h0, if_neg (by omega), if_neg (by omega), if_pos (by omega), if_neg (by omega), if_neg (by omega), if_neg (by omega), if_neg (by omega), decide_eq_false (by omega)]
  · rw [if_neg h0]
    exact Ev.congr (Ev.const _) (fun k => by rw [visRest, if_neg h0])

end Go.Proofs.YtenlokaaloenmaaDoor.Pure
