/- Watch tells the first tick with a cause and its least cause; the counts add up to all the causes. -/
import Derived.Test.YtlpdoieokgeikaaAskLimitFirst
import Derived.Test.YtlpdoieokgeikaaLim4
import Derived.Test.YtlpdoieokgeikaaS15
namespace Go.Proofs.Ytlpdoieokgeikaa.Pure
open Go.RowKit Go.Proofs.Ytlpdoieokgeikaa.S Go.Proofs.YtlpdoieokgeikaaW.PrintWords Go.Proofs.YtlpdoieokgeikaaW.PrintLast
set_option linter.unusedVariables false
set_option linter.unusedSimpArgs false

theorem known_ev : Ev (fun k => tipstafflaw14_LimitKnown.f k) true := Ev.mono_at 100 (by decide +kernel) (fun k => tipstafflaw14_LimitKnown.mono k)
theorem watchG_pos (h s : Int) : ∀ (l : List S38) (i : Int), (0 < (watchG h s l i).1 ↔ 0 < sumC h s l)
  | [], i => by rw [watchG, sumC]; exact ⟨fun h => absurd h (by decide), fun h => absurd h (by decide)⟩
  | m :: ms, i => by
    rw [watchG, sumC]
    by_cases hp : 0 < (causV m h s).length
    · rw [if_pos hp]
      have := causV_mem (m := m) (h := h) (s := s) (rd (causV m h s) ((0 : Nat) : Int)) (by rw [rd_nat _ 0 hp]; exact List.getElem_mem _)
      refine ⟨fun _ => by omega, fun _ => ?_⟩
      show 0 < rd (causV m h s) 0
      exact Int.lt_of_lt_of_le Int.zero_lt_one this.1
    · rw [if_neg hp, watchG_pos h s ms]; omega
theorem first_back (b : Bool) (l : List S38) (hl : l.length ≤ 30) (hm : ∀ m ∈ l, chkV m = 0) (x7 : List Int) (ca ti : Int) (u : Bool)
    (hend : Ev (fun k => tipstafflaw14_LimitFirst.l1 k b x7 (watchG 20 3 l 0).2 (watchG 20 3 l 0).1 (sumC 20 3 l : Int) 0 0 ca ti) u) :
    ∀ i : Nat, i ≤ l.length → Ev (fun k => tipstafflaw14_LimitFirst.l0 k b l x7 (watchG 20 3 (l.drop i) i).2 (watchG 20 3 (l.drop i) i).1 (sumC 20 3 (l.drop i) : Int) ((i : Int) - 1) ca ti) u := by
  intro i
  induction i with
  | zero =>
    intro hi
    refine hend.step (fun k => ?_)
    rw [tipstafflaw14_LimitFirst.l0, if_neg (by omega), List.drop_zero]; rfl
  | succ i ih =>
    intro hi
    have hx : ((i + 1 : Nat) : Int) - 1 = (i : Int) := by omega
    have hmem : rd_T38 l (i : Int) ∈ l := List.drop_subset i l (by rw [rd38_drop l i (by omega)]; simp)
    have hs := sum_le 20 3 (l.drop (i + 1))
    rw [List.length_drop] at hs
    have hcl := causV_len (rd_T38 l (i : Int)) 20 3
    rw [hx]
    refine Ev.step (g' := fun k => (limit_Causes.f k ((rd_T38 l (i : Int)).f0) ((rd_T38 l (i : Int)).f1) ((rd_T38 l (i : Int)).f2) ((rd_T38 l (i : Int)).f3) ((rd_T38 l (i : Int)).f4) 20 3).bind fun bt524 => (if bt524.2 = 0 then (if (bt524.1.length : Int) > 0 then (if 0 < (bt524.1.length : Int) then (tipstafflaw14_LimitFirst.l0 k b l x7 (i : Int) (rd bt524.1 0) (wrap64 ((sumC 20 3 (l.drop (i + 1)) : Int) + (bt524.1.length : Int))) (wrap64 ((i : Int) - 1)) ca ti) else (none)) else (tipstafflaw14_LimitFirst.l0 k b l x7 (watchG 20 3 (l.drop (i + 1)) ((i + 1 : Nat) : Int)).2 (watchG 20 3 (l.drop (i + 1)) ((i + 1 : Nat) : Int)).1 (wrap64 ((sumC 20 3 (l.drop (i + 1)) : Int) + (bt524.1.length : Int))) (wrap64 ((i : Int) - 1)) ca ti)) else (none))) ?_ (fun k => by
      rw [tipstafflaw14_LimitFirst.l0, if_pos (show (i : Int) ≥ 0 by omega), if_pos (by omega), if_pos (by omega)])
    refine (causes_one (hm _ hmem) 20 3 (by decide)).bind (f := fun bt524 k => (if bt524.2 = 0 then (if (bt524.1.length : Int) > 0 then (if 0 < (bt524.1.length : Int) then (tipstafflaw14_LimitFirst.l0 k b l x7 (i : Int) (rd bt524.1 0) (wrap64 ((sumC 20 3 (l.drop (i + 1)) : Int) + (bt524.1.length : Int))) (wrap64 ((i : Int) - 1)) ca ti) else (none)) else (tipstafflaw14_LimitFirst.l0 k b l x7 (watchG 20 3 (l.drop (i + 1)) ((i + 1 : Nat) : Int)).2 (watchG 20 3 (l.drop (i + 1)) ((i + 1 : Nat) : Int)).1 (wrap64 ((sumC 20 3 (l.drop (i + 1)) : Int) + (bt524.1.length : Int))) (wrap64 ((i : Int) - 1)) ca ti)) else (none))) ?_
    have ih := ih (by omega)
    rw [rd38_drop l i (by omega), watchG, sumC] at ih
    have e1 : wrap64 ((sumC 20 3 (l.drop (i + 1)) : Int) + ((causV (rd_T38 l (i : Int)) 20 3).length : Int)) = (((causV (rd_T38 l (i : Int)) 20 3).length + sumC 20 3 (l.drop (i + 1)) : Nat) : Int) := by rw [wrap_id _ (by omega) (by omega)]; omega
    have e2 : wrap64 ((i : Int) - 1) = (i : Int) - 1 := wrap_id _ (by omega) (by omega)
    by_cases hp : 0 < (causV (rd_T38 l (i : Int)) 20 3).length
    · have hpi : ((causV (rd_T38 l (i : Int)) 20 3).length : Int) > 0 := by omega
      rw [if_pos hp] at ih
      refine ih.congr (fun k => ?_)
      rw [if_pos rfl, if_pos hpi, if_pos hpi, e1, e2]
    · have hpi : ¬ ((causV (rd_T38 l (i : Int)) 20 3).length : Int) > 0 := by omega
      rw [if_neg hp] at ih
      refine ih.congr (fun k => ?_)
      rw [if_pos rfl, if_neg hpi, e1, e2]
      rfl
theorem first_sum (l : List S38) (hl : l.length ≤ 30) (ca ti : Int) (hca : ca = (watchG 20 3 l 0).1) (hti : ti = (watchG 20 3 l 0).2) :
    Ev (fun k => tipstafflaw14_LimitFirst.l1 k true (tellC 20 3 l) (watchG 20 3 l 0).2 (watchG 20 3 l 0).1 (sumC 20 3 l : Int) 0 0 ca ti) true := by
  have h0 := numC_le 20 3 0 l
  have h1 := numC_le 20 3 1 l
  have h2 := numC_le 20 3 2 l
  have h3 := numC_le 20 3 3 l
  have h4 := numC_le 20 3 4 l
  have hlen : ((tellC 20 3 l).length : Int) = 5 := rfl
  have one : ∀ (j : Nat) (acc : Int), j < 5 → 0 ≤ acc → acc ≤ 1000 → ∀ k, tipstafflaw14_LimitFirst.l1 (k + 1) true (tellC 20 3 l) (watchG 20 3 l 0).2 (watchG 20 3 l 0).1 (sumC 20 3 l : Int) acc (j : Int) ca ti = tipstafflaw14_LimitFirst.l1 k true (tellC 20 3 l) (watchG 20 3 l 0).2 (watchG 20 3 l 0).1 (sumC 20 3 l : Int) (acc + numC 20 3 j l) ((j + 1 : Nat) : Int) ca ti := by
    intro j acc hj ha hb k
    have := numC_le 20 3 j l
    rw [tipstafflaw14_LimitFirst.l1, if_pos (by omega), if_pos (by omega), if_pos (by omega), tell_rd 20 3 l hl j hj, wrap_id _ (by omega) (by omega), wrap_succ j (by omega)]
  refine Ev.step (Ev.step (Ev.step (Ev.step (Ev.step (Ev.step (Ev.const true) ?e6) (one 4 _ (by omega) ?_ ?_)) (one 3 _ (by omega) ?_ ?_)) (one 2 _ (by omega) ?_ ?_)) (one 1 _ (by omega) ?_ ?_)) (one 0 0 (by omega) (by omega) (by omega))
  case e6 =>
    intro k
    have hs := sum_num 20 3 l
    have hw := watchG_pos 20 3 l 0
    obtain ⟨t, ht⟩ : ∃ t : Int, 0 + (numC 20 3 0 l : Int) + (numC 20 3 1 l : Int) + (numC 20 3 2 l : Int) + (numC 20 3 3 l : Int) + (numC 20 3 4 l : Int) = t := ⟨_, rfl⟩
    have e : t = (sumC 20 3 l : Int) := by omega
    rw [ht, tipstafflaw14_LimitFirst.l1, if_neg (by decide), if_pos rfl, hca, hti, if_pos (by simp), if_pos e]
    by_cases hp : 0 < sumC 20 3 l
    · rw [decide_eq_true (show t > 0 by omega), decide_eq_true (hw.2 hp)]; rfl
    · rw [decide_eq_false (show ¬ t > 0 by omega), decide_eq_false (fun h => hp (hw.1 h))]; rfl
  all_goals omega

theorem LimitFirst : LimitFirst.Stmt := by
  intro l0 ⟨_, hw⟩ _
  refine Ev.get (g := fun k => tipstafflaw14_LimitFirst.f k l0) ?_
  obtain ⟨l, hl, h1, h2⟩ := made_val l0 hw
  have hask : askV l 20 3 = 0 := by rw [ask_made h1 h2]; decide
  refine Ev.congr (g' := fun k => (tipstafflaw14_LimitKnown.f k).bind fun t511 => ((tipstafflaw14_made.f k l0).bind fun t512 => ((limit_Watch.f k t512 20 3).bind fun bt515 => ((limit_Counts.f k t512 20 3).bind fun bt519 => (if bt515.2.2 = 0 then (if bt519.2 = 0 then (tipstafflaw14_LimitFirst.j0 k t511 t512 bt519.1 ((bt519.1.length : Int) != 5) bt515.1 bt515.2.1) else (tipstafflaw14_LimitFirst.j0 k t511 t512 bt519.1 true bt515.1 bt515.2.1)) else (tipstafflaw14_LimitFirst.j0 k t511 t512 bt519.1 true bt515.1 bt515.2.1)))))) ?_ (fun k => by rw [tipstafflaw14_LimitFirst.f])
  refine known_ev.bind (f := fun t511 k => ((tipstafflaw14_made.f k l0).bind fun t512 => ((limit_Watch.f k t512 20 3).bind fun bt515 => ((limit_Counts.f k t512 20 3).bind fun bt519 => (if bt515.2.2 = 0 then (if bt519.2 = 0 then (tipstafflaw14_LimitFirst.j0 k t511 t512 bt519.1 ((bt519.1.length : Int) != 5) bt515.1 bt515.2.1) else (tipstafflaw14_LimitFirst.j0 k t511 t512 bt519.1 true bt515.1 bt515.2.1)) else (tipstafflaw14_LimitFirst.j0 k t511 t512 bt519.1 true bt515.1 bt515.2.1)))))) ?_
  refine hl.bind (f := fun t512 k => ((limit_Watch.f k t512 20 3).bind fun bt515 => ((limit_Counts.f k t512 20 3).bind fun bt519 => (if bt515.2.2 = 0 then (if bt519.2 = 0 then (tipstafflaw14_LimitFirst.j0 k true t512 bt519.1 ((bt519.1.length : Int) != 5) bt515.1 bt515.2.1) else (tipstafflaw14_LimitFirst.j0 k true t512 bt519.1 true bt515.1 bt515.2.1)) else (tipstafflaw14_LimitFirst.j0 k true t512 bt519.1 true bt515.1 bt515.2.1))))) ?_
  refine (watch_val l 20 3).bind (f := fun bt515 k => ((limit_Counts.f k l 20 3).bind fun bt519 => (if bt515.2.2 = 0 then (if bt519.2 = 0 then (tipstafflaw14_LimitFirst.j0 k true l bt519.1 ((bt519.1.length : Int) != 5) bt515.1 bt515.2.1) else (tipstafflaw14_LimitFirst.j0 k true l bt519.1 true bt515.1 bt515.2.1)) else (tipstafflaw14_LimitFirst.j0 k true l bt519.1 true bt515.1 bt515.2.1)))) ?_
  refine (count_val l 20 3).bind (f := fun bt519 k => (if (watchV l 20 3).2.2 = 0 then (if bt519.2 = 0 then (tipstafflaw14_LimitFirst.j0 k true l bt519.1 ((bt519.1.length : Int) != 5) (watchV l 20 3).1 (watchV l 20 3).2.1) else (tipstafflaw14_LimitFirst.j0 k true l bt519.1 true (watchV l 20 3).1 (watchV l 20 3).2.1)) else (tipstafflaw14_LimitFirst.j0 k true l bt519.1 true (watchV l 20 3).1 (watchV l 20 3).2.1))) ?_
  have ew : watchV l 20 3 = ((watchG 20 3 l 0).1, (watchG 20 3 l 0).2, 0) := by unfold watchV; rw [if_pos hask]
  have ec : countV l 20 3 = (tellC 20 3 l, 0) := by unfold countV; rw [if_pos hask]; rfl
  rw [ew, ec]
  have hb := first_back true l h1 h2 (tellC 20 3 l) (watchG 20 3 l 0).1 (watchG 20 3 l 0).2 true (first_sum l h1 _ _ rfl rfl) l.length (Nat.le_refl _)
  rw [List.drop_eq_nil_of_le (Nat.le_refl _)] at hb
  refine Ev.congr (g' := fun k => tipstafflaw14_LimitFirst.j0 k true l (tellC 20 3 l) false (watchG 20 3 l 0).1 (watchG 20 3 l 0).2) ?_ (fun k => by rw [if_pos rfl, if_pos rfl]; rfl)
  refine hb.step (fun k => ?_)
  rw [tipstafflaw14_LimitFirst.j0, if_neg (by decide), wrap_id ((l.length : Int) - 1) (by omega) (by omega)]; rfl

end Go.Proofs.Ytlpdoieokgeikaa.Pure
