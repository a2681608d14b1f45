/- Greater limits add no cause, and leave the causes that no limit tells. -/
import Derived.Test.YtlpdoieokgeikaaAskLimitMore
import Derived.Test.YtlpdoieokgeikaaLim4
import Derived.Test.YtlpdoieokgeikaaS15
namespace Go.Proofs.Ytlpdoieokgeikaa.Pure
open Go.RowKit Go.Proofs.Ytlpdoieokgeikaa.S Go.Proofs.YtlpdoieokgeikaaW.PrintWords Go.Proofs.YtlpdoieokgeikaaW.PrintLast
set_option linter.unusedVariables false
set_option linter.unusedSimpArgs false

theorem known_ev : Ev (fun k => tipstafflaw14_LimitKnown.f k) true := Ev.mono_at 100 (by decide +kernel) (fun k => tipstafflaw14_LimitKnown.mono k)
theorem num_mono (h s h' s' : Int) (j : Nat) (hq : ∀ m : S38, isC m h' s' j = true → isC m h s j = true) : ∀ l, numC h' s' j l ≤ numC h s j l
  | [] => Nat.le_refl _
  | m :: ms => by
    have := num_mono h s h' s' j hq ms
    rw [numC, numC]
    by_cases h1 : isC m h' s' j = true
    · rw [if_pos h1, if_pos (hq m h1)]; omega
    · rw [if_neg h1]; omega
theorem num_same (h s h' s' : Int) (j : Nat) (hj : 2 ≤ j) : ∀ l, numC h' s' j l = numC h s j l
  | [] => rfl
  | m :: ms => by
    have e : isC m h' s' j = isC m h s j := by
      obtain ⟨d, rfl⟩ : ∃ d, j = d + 2 := ⟨j - 2, by omega⟩
      cases d with
      | zero => rfl
      | succ d => cases d with
        | zero => rfl
        | succ d => cases d with
          | zero => rfl
          | succ d => rfl
    rw [numC, numC, num_same h s h' s' j hj ms, e]
theorem num_less (h s h' s' : Int) (hh : h ≤ h') (hs : s ≤ s') (j : Nat) (l : List S38) : numC h' s' j l ≤ numC h s j l := by
  by_cases hj : 2 ≤ j
  · rw [num_same h s h' s' j hj]; exact Nat.le_refl _
  · have hj' : j = 0 ∨ j = 1 := by omega
    rcases hj' with rfl | rfl
    · refine num_mono h s h' s' 0 (fun m hm => ?_) l
      have : decide (s' < m.f1) = true := hm
      have := of_decide_eq_true this
      exact decide_eq_true (by omega)
    · refine num_mono h s h' s' 1 (fun m hm => ?_) l
      have hm : (decide (m.f0 < 0) || decide (h' < m.f0)) = true := hm
      show (decide (m.f0 < 0) || decide (h < m.f0)) = true
      simp only [Bool.or_eq_true, decide_eq_true_eq] at hm ⊢
      omega
theorem more_loop (h s h' s' : Int) (hh : h ≤ h') (hs : s ≤ s') (l : List S38) (hl : l.length ≤ 30) : Ev (fun k => tipstafflaw14_LimitMore.l0 k true (tellC h s l) (tellC h' s' l) 0) true := by
  have hlen : ((tellC h s l).length : Int) = 5 := rfl
  have hlen' : ((tellC h' s' l).length : Int) = 5 := rfl
  have one : ∀ (j : Nat), j < 5 → ∀ k, tipstafflaw14_LimitMore.l0 (k + 1) true (tellC h s l) (tellC h' s' l) (j : Int) = tipstafflaw14_LimitMore.l0 k true (tellC h s l) (tellC h' s' l) ((j + 1 : Nat) : Int) := by
    intro j hj k
    have h1 := num_less h s h' s' hh hs j l
    rw [tipstafflaw14_LimitMore.l0, if_pos (by omega), if_pos (by omega), if_pos (by omega), if_pos (by omega), tell_rd h s l hl j hj, tell_rd h' s' l hl j hj, if_neg (by omega), wrap_succ j (by omega)]
    by_cases h2 : (j : Int) > 1
    · rw [if_pos h2, if_pos (by rw [num_same h s h' s' j (by omega)])]
    · rw [if_neg h2]
  refine Ev.step (Ev.step (Ev.step (Ev.step (Ev.step (Ev.step (Ev.const true) (fun k => ?_)) (one 4 (by omega))) (one 3 (by omega))) (one 2 (by omega))) (one 1 (by omega))) (one 0 (by omega))
  rw [tipstafflaw14_LimitMore.l0, if_neg (by decide)]

theorem LimitMore : LimitMore.Stmt := by
  intro l0 a1 a2 a3 a4 ⟨_, hw⟩ _ i1 i2 i3 i4
  refine Ev.get (g := fun k => tipstafflaw14_LimitMore.f k l0 a1 a2 a3 a4) ?_
  obtain ⟨l, hl, h1, h2⟩ := made_val l0 hw
  obtain ⟨b1, e1⟩ : ∃ b, a1 % 30 = b := ⟨_, rfl⟩
  obtain ⟨b2, e2⟩ : ∃ b, a2 % 5 = b := ⟨_, rfl⟩
  obtain ⟨b3, e3⟩ : ∃ b, a3 % 10 = b := ⟨_, rfl⟩
  obtain ⟨b4, e4⟩ : ∃ b, a4 % 5 = b := ⟨_, rfl⟩
  have m1 := mod_val a1 30 (i64_of i1) (by omega) (by omega)
  have m2 := mod_val a2 5 (i64_of i2) (by omega) (by omega)
  have m3 := mod_val a3 10 (i64_of i3) (by omega) (by omega)
  have m4 := mod_val a4 5 (i64_of i4) (by omega) (by omega)
  rw [e1] at m1; rw [e2] at m2; rw [e3] at m3; rw [e4] at m4
  have ok : ∀ h s, 0 ≤ h → h ≤ 100 → 1 ≤ s → s ≤ 20 → countV l h s = (tellC h s l, 0) := by
    intro h s a b c d
    unfold countV
    rw [if_pos (by rw [ask_made h1 h2]; unfold limE; rw [if_neg (by omega)])]; rfl
  have w1 : wrap64 (1 + b2) = 1 + b2 := wrap_id _ (by omega) (by omega)
  have w2 : wrap64 (b1 + b3) = b1 + b3 := wrap_id _ (by omega) (by omega)
  have w3 : wrap64 ((1 + b2) + b4) = (1 + b2) + b4 := wrap_id _ (by omega) (by omega)
  refine Ev.congr (g' := fun k => (tipstafflaw14_LimitKnown.f k).bind fun t530 => ((tipstafflaw14_made.f k l0).bind fun t531 => ((limit_Counts.f k t531 b1 (1 + b2)).bind fun bt536 => ((limit_Counts.f k t531 (b1 + b3) ((1 + b2) + b4)).bind fun bt542 => (if bt536.2 = 0 then (if bt542.2 = 0 then (if (bt536.1.length : Int) = 5 then (tipstafflaw14_LimitMore.j0 k t530 bt536.1 bt542.1 ((bt542.1.length : Int) != 5)) else (tipstafflaw14_LimitMore.j0 k t530 bt536.1 bt542.1 true)) else (tipstafflaw14_LimitMore.j0 k t530 bt536.1 bt542.1 true)) else (tipstafflaw14_LimitMore.j0 k t530 bt536.1 bt542.1 true)))))) ?_ (fun k => by rw [tipstafflaw14_LimitMore.f, m1, m2, m3, m4]; simp only [Option.bind_some, w1, w2, w3])
  refine known_ev.bind (f := fun t530 k => ((tipstafflaw14_made.f k l0).bind fun t531 => ((limit_Counts.f k t531 b1 (1 + b2)).bind fun bt536 => ((limit_Counts.f k t531 (b1 + b3) ((1 + b2) + b4)).bind fun bt542 => (if bt536.2 = 0 then (if bt542.2 = 0 then (if (bt536.1.length : Int) = 5 then (tipstafflaw14_LimitMore.j0 k t530 bt536.1 bt542.1 ((bt542.1.length : Int) != 5)) else (tipstafflaw14_LimitMore.j0 k t530 bt536.1 bt542.1 true)) else (tipstafflaw14_LimitMore.j0 k t530 bt536.1 bt542.1 true)) else (tipstafflaw14_LimitMore.j0 k t530 bt536.1 bt542.1 true)))))) ?_
  refine hl.bind (f := fun t531 k => ((limit_Counts.f k t531 b1 (1 + b2)).bind fun bt536 => ((limit_Counts.f k t531 (b1 + b3) ((1 + b2) + b4)).bind fun bt542 => (if bt536.2 = 0 then (if bt542.2 = 0 then (if (bt536.1.length : Int) = 5 then (tipstafflaw14_LimitMore.j0 k true bt536.1 bt542.1 ((bt542.1.length : Int) != 5)) else (tipstafflaw14_LimitMore.j0 k true bt536.1 bt542.1 true)) else (tipstafflaw14_LimitMore.j0 k true bt536.1 bt542.1 true)) else (tipstafflaw14_LimitMore.j0 k true bt536.1 bt542.1 true))))) ?_
  refine (count_val l b1 (1 + b2)).bind (f := fun bt536 k => ((limit_Counts.f k l (b1 + b3) ((1 + b2) + b4)).bind fun bt542 => (if bt536.2 = 0 then (if bt542.2 = 0 then (if (bt536.1.length : Int) = 5 then (tipstafflaw14_LimitMore.j0 k true bt536.1 bt542.1 ((bt542.1.length : Int) != 5)) else (tipstafflaw14_LimitMore.j0 k true bt536.1 bt542.1 true)) else (tipstafflaw14_LimitMore.j0 k true bt536.1 bt542.1 true)) else (tipstafflaw14_LimitMore.j0 k true bt536.1 bt542.1 true)))) ?_
  rw [ok b1 (1 + b2) (by omega) (by omega) (by omega) (by omega)]
  refine (count_val l (b1 + b3) ((1 + b2) + b4)).bind (f := fun bt542 k => (if (0 : Int) = 0 then (if bt542.2 = 0 then (if ((tellC b1 (1 + b2) l).length : Int) = 5 then (tipstafflaw14_LimitMore.j0 k true (tellC b1 (1 + b2) l) bt542.1 ((bt542.1.length : Int) != 5)) else (tipstafflaw14_LimitMore.j0 k true (tellC b1 (1 + b2) l) bt542.1 true)) else (tipstafflaw14_LimitMore.j0 k true (tellC b1 (1 + b2) l) bt542.1 true)) else (tipstafflaw14_LimitMore.j0 k true (tellC b1 (1 + b2) l) bt542.1 true))) ?_
  rw [ok (b1 + b3) ((1 + b2) + b4) (by omega) (by omega) (by omega) (by omega)]
  refine Ev.congr (g' := fun k => tipstafflaw14_LimitMore.j0 k true (tellC b1 (1 + b2) l) (tellC (b1 + b3) ((1 + b2) + b4) l) false) ?_ (fun k => by rw [if_pos rfl, if_pos rfl, if_pos (show ((tellC b1 (1 + b2) l).length : Int) = 5 from rfl)]; rfl)
  refine (more_loop b1 (1 + b2) (b1 + b3) ((1 + b2) + b4) (by omega) (by omega) l h1).step (fun k => ?_)
  rw [tipstafflaw14_LimitMore.j0, if_neg (by decide)]

end Go.Proofs.Ytlpdoieokgeikaa.Pure
