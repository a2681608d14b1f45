/- The spells of a light, the longest one, the lights, the visits, the changes: as the reference has them. -/
import Derived.Test.YtenlokaaloenmaaDoorM7
import Derived.Test.YtenlokaaloenmaaDoorM9
import Derived.Test.YtenlokaaloenmaaDoorAskReportSpells
set_option linter.unusedVariables false
namespace Go.Proofs.YtenlokaaloenmaaDoor.Pure
open Go.RowKit Go.Proofs.YtenlokaaloenmaaDoor.S Go.Proofs.YtenlokaaloenmaaDoorW.PrintWords Go.Proofs.YtenlokaaloenmaaDoorW.PrintLast Go.Proofs.YtenlokaaloenmaaDoorW.PrintMore
set_option linter.unusedVariables false
set_option linter.unusedSimpArgs false

theorem u64_wf {n : Int} (h : (Lit.int .u64 n).wf = true) : 0 ≤ n ∧ n < 18446744073709551616 := by
  simp only [Lit.wf, Bool.and_eq_true, decide_eq_true_eq] at h
  obtain ⟨h1, h2⟩ := h
  have h3 : (0 : Int) ≤ n := h1
  have h4 : n ≤ 18446744073709551615 := h2
  omega
theorem wv_wf {v : S41} (h : wf41 v) : WV v := by
  obtain ⟨h0, h1, h2, h3, h4, h5⟩ := h
  have hm : maxLen ≤ 9223372036854775807 := by unfold maxLen; omega
  exact ⟨i64_of h0, by omega, by omega, u64_wf h3, u64_wf h4⟩

theorem bne_irr {α : Type} [BEq α] [LawfulBEq α] (a : α) : (a != a) = false := by simp

def rs2 (l : List S41) (f c w : Int) (k : Nat) : Option Bool := (report_Visits.f k l c f w).bind fun bt325 => ((tipstaffref43_Visits.f k l c f w).bind fun bt327 => ((report_Changes.f k l).bind fun bt329 => ((tipstaffref43_Changes.f k l).bind fun bt333 => (if bt325.1 = bt327.1 then (if bt325.2 = bt327.2 then ((tipstaffkit_SameInts.f k bt329.1 bt333.1).bind fun t337 => (if t337 = true then (if bt329.2 = bt333.2 then ((tipstafflaw43_unchanged.f l l).bind fun t338 => (if t338 = true then ((tipstafflaw43_awake.f).bind fun t339 => (some t339)) else (none))) else (none)) else (none))) else (none)) else (none)))))
theorem rs2_ev (l : List S41) (hw : ∀ v ∈ l, WV v) (hl : l.length ≤ 20010) (f c w : Int) : Ev (rs2 l f c w) true := by
  have hc : (chaV l).1.length ≤ 1000000000 := by
    unfold chaV
    by_cases h0 : (chk l).1 = 0
    · rw [if_pos h0]; have := chgF_len l l.length 0 0 0; show (chgF l l.length 0 0 0).length ≤ _; omega
    · rw [if_neg h0]; exact Nat.zero_le _
  refine Ev.bind (f := fun bt325 k => ((tipstaffref43_Visits.f k l c f w).bind fun bt327 => ((report_Changes.f k l).bind fun bt329 => ((tipstaffref43_Changes.f k l).bind fun bt333 => (if bt325.1 = bt327.1 then (if bt325.2 = bt327.2 then ((tipstaffkit_SameInts.f k bt329.1 bt333.1).bind fun t337 => (if t337 = true then (if bt329.2 = bt333.2 then ((tipstafflaw43_unchanged.f l l).bind fun t338 => (if t338 = true then ((tipstafflaw43_awake.f).bind fun t339 => (some t339)) else (none))) else (none)) else (none))) else (none)) else (none)))))) (visits_ev l hw c f w) ?_
  refine Ev.bind (f := fun bt327 k => ((report_Changes.f k l).bind fun bt329 => ((tipstaffref43_Changes.f k l).bind fun bt333 => (if (visV l c f w).1 = bt327.1 then (if (visV l c f w).2 = bt327.2 then ((tipstaffkit_SameInts.f k bt329.1 bt333.1).bind fun t337 => (if t337 = true then (if bt329.2 = bt333.2 then ((tipstafflaw43_unchanged.f l l).bind fun t338 => (if t338 = true then ((tipstafflaw43_awake.f).bind fun t339 => (some t339)) else (none))) else (none)) else (none))) else (none)) else (none))))) (rvisits_ev l hw c f w) ?_
  refine Ev.bind (f := fun bt329 k => ((tipstaffref43_Changes.f k l).bind fun bt333 => (if (visV l c f w).1 = (visV l c f w).1 then (if (visV l c f w).2 = (visV l c f w).2 then ((tipstaffkit_SameInts.f k bt329.1 bt333.1).bind fun t337 => (if t337 = true then (if bt329.2 = bt333.2 then ((tipstafflaw43_unchanged.f l l).bind fun t338 => (if t338 = true then ((tipstafflaw43_awake.f).bind fun t339 => (some t339)) else (none))) else (none)) else (none))) else (none)) else (none)))) (changes_ev l hw) ?_
  refine Ev.bind (f := fun bt333 k => (if (visV l c f w).1 = (visV l c f w).1 then (if (visV l c f w).2 = (visV l c f w).2 then ((tipstaffkit_SameInts.f k (chaV l).1 bt333.1).bind fun t337 => (if t337 = true then (if (chaV l).2 = bt333.2 then ((tipstafflaw43_unchanged.f l l).bind fun t338 => (if t338 = true then ((tipstafflaw43_awake.f).bind fun t339 => (some t339)) else (none))) else (none)) else (none))) else (none)) else (none))) (rchanges_ev l hw) ?_
  have g := Ev.bind (f := fun t337 (_ : Nat) => (if t337 = true then (if (chaV l).2 = (chaV l).2 then ((tipstafflaw43_unchanged.f l l).bind fun t338 => (if t338 = true then ((tipstafflaw43_awake.f).bind fun t339 => (some t339)) else (none))) else (none)) else (none))) (ints_ev (chaV l).1 hc) (Ev.of_eq (v := true) (by rw [if_pos rfl, if_pos rfl, unchanged_same]; rfl))
  exact g.congr (fun k => by rw [if_pos rfl, if_pos rfl])

theorem litV_len (l : List S41) : (litV l).1.length ≤ l.length := by
  unfold litV
  by_cases h0 : (chk l).1 = 0
  · rw [if_pos h0]; show (l.map _).length ≤ _; rw [List.length_map]; exact Nat.le_refl _
  · rw [if_neg h0]; exact Nat.zero_le _
theorem rs1_ev (l : List S41) (hw : ∀ v ∈ l, WV v) (hl : l.length ≤ 20010) (f c w : Int) : Ev (fun k => tipstafflaw43_ReportSpells.j0 k l f c w l false) true := by
  have hll := litV_len l
  have g := Ev.bind (f := fun bt316 k => ((tipstaffref43_Lights.f k l).bind fun bt320 => ((tipstaffkit_SameInts.f k bt316.1 bt320.1).bind fun t324 => (if t324 = true then (if bt316.2 = bt320.2 then rs2 l f c w k else none) else none)))) (lights_ev l hw) (u := true) (by
    refine Ev.bind (f := fun bt320 k => ((tipstaffkit_SameInts.f k (litV l).1 bt320.1).bind fun t324 => (if t324 = true then (if (litV l).2 = bt320.2 then rs2 l f c w k else none) else none))) (rlights_ev l hw) ?_
    refine Ev.bind (f := fun t324 k => (if t324 = true then (if (litV l).2 = (litV l).2 then rs2 l f c w k else none) else none)) (ints_ev (litV l).1 (by omega)) ?_
    exact (rs2_ev l hw hl f c w).congr (fun k => by rw [if_pos rfl, if_pos rfl]))
  exact g.step (fun k => by rw [tipstafflaw43_ReportSpells.j0, if_neg (by decide)]; rfl)

def rs3 (l : List S41) (f c w : Int) (k : Nat) : Option Bool := ((report_Longest.f k l).bind fun bt304 => ((tipstaffref43_Longest.f k l).bind fun bt310 => (if bt304.1 = bt310.1 then (if (bt304.2.1 != bt310.2.1) = true then (tipstafflaw43_ReportSpells.j0 k l f c w l true) else (if (!(bt304.2.2.1 == bt310.2.2.1) || (!(bt304.2.2.2.1 == bt310.2.2.2.1))) = true then (tipstafflaw43_ReportSpells.j0 k l f c w l true) else (tipstafflaw43_ReportSpells.j0 k l f c w l (bt304.2.2.2.2 != bt310.2.2.2.2)))) else (tipstafflaw43_ReportSpells.j0 k l f c w l true))))
theorem rs3_ev (l : List S41) (hw : ∀ v ∈ l, WV v) (hl : l.length ≤ 20010) (f c w : Int) : Ev (rs3 l f c w) true := by
  refine Ev.bind (f := fun bt304 k => ((tipstaffref43_Longest.f k l).bind fun bt310 => (if bt304.1 = bt310.1 then (if (bt304.2.1 != bt310.2.1) = true then (tipstafflaw43_ReportSpells.j0 k l f c w l true) else (if (!(bt304.2.2.1 == bt310.2.2.1) || (!(bt304.2.2.2.1 == bt310.2.2.2.1))) = true then (tipstafflaw43_ReportSpells.j0 k l f c w l true) else (tipstafflaw43_ReportSpells.j0 k l f c w l (bt304.2.2.2.2 != bt310.2.2.2.2)))) else (tipstafflaw43_ReportSpells.j0 k l f c w l true)))) (long_ev l hw) ?_
  obtain ⟨v, hv⟩ : ∃ v, lonV l = v := ⟨_, rfl⟩
  refine Ev.bind (f := fun bt310 k => (if (lonV l).1 = bt310.1 then (if ((lonV l).2.1 != bt310.2.1) = true then (tipstafflaw43_ReportSpells.j0 k l f c w l true) else (if (!((lonV l).2.2.1 == bt310.2.2.1) || (!((lonV l).2.2.2.1 == bt310.2.2.2.1))) = true then (tipstafflaw43_ReportSpells.j0 k l f c w l true) else (tipstafflaw43_ReportSpells.j0 k l f c w l ((lonV l).2.2.2.2 != bt310.2.2.2.2)))) else (tipstafflaw43_ReportSpells.j0 k l f c w l true))) (rlong_ev l hw) ?_
  rw [hv]
  exact (rs1_ev l hw hl f c w).congr (fun k => by rw [if_pos rfl, if_neg (by simp), if_neg (by simp), bne_irr])

theorem speV_len (l : List S41) (f : Int) (up : Bool) : (speV l f up).1.length ≤ l.length + 1 := by
  unfold speV
  by_cases h0 : (chk l).1 = 0
  · rw [if_pos h0]
    by_cases h1 : f < 0 ∨ 64 ≤ f
    · rw [if_pos h1]; exact Nat.zero_le _
    · rw [if_neg h1]; show ((spl l f up).map _).length ≤ _; rw [List.length_map]; exact spl_len l f up
  · rw [if_neg h0]; exact Nat.zero_le _
def rs4 (l : List S41) (f c w : Int) (up : Bool) (k : Nat) : Option Bool := (report_Spells.f k l f up).bind fun bt295 => (tipstaffref43_Spells.f k l f up).bind fun bt299 => (tipstafflaw43_stretches.f k bt295.1 bt299.1).bind fun t303 => if t303 = true then (if bt295.2 = bt299.2 then rs3 l f c w k else none) else none
theorem rs4_ev (l : List S41) (hw : ∀ v ∈ l, WV v) (hl : l.length ≤ 20010) (f c w : Int) (up : Bool) : Ev (rs4 l f c w up) true := by
  have hs := speV_len l f up
  refine Ev.bind (f := fun bt295 k => (tipstaffref43_Spells.f k l f up).bind fun bt299 => (tipstafflaw43_stretches.f k bt295.1 bt299.1).bind fun t303 => if t303 = true then (if bt295.2 = bt299.2 then rs3 l f c w k else none) else none) (spells_ev l hw f up) ?_
  refine Ev.bind (f := fun bt299 k => (tipstafflaw43_stretches.f k (speV l f up).1 bt299.1).bind fun t303 => if t303 = true then (if (speV l f up).2 = bt299.2 then rs3 l f c w k else none) else none) (rSpells_ev l hw f up) ?_
  refine Ev.bind (f := fun t303 k => if t303 = true then (if (speV l f up).2 = (speV l f up).2 then rs3 l f c w k else none) else none) (str_ev (speV l f up).1 (by omega)) ?_
  exact (rs3_ev l hw hl f c w).congr (fun k => by rw [if_pos rfl, if_pos rfl])

theorem ReportSpells : ReportSpells.Stmt := by
  intro l f c w up hl0 _ _ _
  have hw : ∀ v ∈ l, WV v := fun v hv => wv_wf (hl0.2 v hv)
  rcases light_ev l with ⟨h, hl, _, hli⟩ | h
  · have hown : tipstafflaw43_own.f l = some l := if_pos ⟨hl, hli⟩
    have g := Ev.bind (f := fun t290 k => (if t290 = true then ((tipstafflaw43_own.f l).bind fun t292 => ((report_Spells.f k t292 f up).bind fun bt295 => ((tipstaffref43_Spells.f k l f up).bind fun bt299 => ((tipstafflaw43_stretches.f k bt295.1 bt299.1).bind fun t303 => (if t303 = true then (if bt295.2 = bt299.2 then ((report_Longest.f k t292).bind fun bt304 => ((tipstaffref43_Longest.f k l).bind fun bt310 => (if bt304.1 = bt310.1 then (if (bt304.2.1 != bt310.2.1) = true then (tipstafflaw43_ReportSpells.j0 k l f c w t292 true) else (if (!(bt304.2.2.1 == bt310.2.2.1) || (!(bt304.2.2.2.1 == bt310.2.2.2.1))) = true then (tipstafflaw43_ReportSpells.j0 k l f c w t292 true) else (tipstafflaw43_ReportSpells.j0 k l f c w t292 (bt304.2.2.2.2 != bt310.2.2.2.2)))) else (tipstafflaw43_ReportSpells.j0 k l f c w t292 true)))) else (none)) else (none)))))) else ((tipstafflaw43_awake.f).bind fun t291 => (some t291)))) h (u := true) (by
      refine (rs4_ev l hw hl f c w up).congr (fun k => ?_)
      rw [if_pos rfl, hown, Option.bind_some]
      rfl)
    exact g.get
  · have g := Ev.bind (f := fun t290 k => (if t290 = true then ((tipstafflaw43_own.f l).bind fun t292 => ((report_Spells.f k t292 f up).bind fun bt295 => ((tipstaffref43_Spells.f k l f up).bind fun bt299 => ((tipstafflaw43_stretches.f k bt295.1 bt299.1).bind fun t303 => (if t303 = true then (if bt295.2 = bt299.2 then ((report_Longest.f k t292).bind fun bt304 => ((tipstaffref43_Longest.f k l).bind fun bt310 => (if bt304.1 = bt310.1 then (if (bt304.2.1 != bt310.2.1) = true then (tipstafflaw43_ReportSpells.j0 k l f c w t292 true) else (if (!(bt304.2.2.1 == bt310.2.2.1) || (!(bt304.2.2.2.1 == bt310.2.2.2.1))) = true then (tipstafflaw43_ReportSpells.j0 k l f c w t292 true) else (tipstafflaw43_ReportSpells.j0 k l f c w t292 (bt304.2.2.2.2 != bt310.2.2.2.2)))) else (tipstafflaw43_ReportSpells.j0 k l f c w t292 true)))) else (none)) else (none)))))) else ((tipstafflaw43_awake.f).bind fun t291 => (some t291)))) h (Ev.const true)
    exact g.get

end Go.Proofs.YtenlokaaloenmaaDoor.Pure
