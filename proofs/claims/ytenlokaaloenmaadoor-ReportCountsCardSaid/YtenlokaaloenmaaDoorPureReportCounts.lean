/- Which runs are valid, and their numbers: as the reference has them. -/
import Derived.Test.YtenlokaaloenmaaDoorRp10
import Derived.Test.YtenlokaaloenmaaDoorHrCounts
import Derived.Test.YtenlokaaloenmaaDoorAskReportCounts
set_option linter.unusedVariables false
namespace Go.Proofs.YtenlokaaloenmaaDoor.Pure
open Go.RowKit Go.Proofs.YtenlokaaloenmaaDoor.S Go.Proofs.YtenlokaaloenmaaDoorW.PrintWords Go.Proofs.YtenlokaaloenmaaDoorW.PrintLast Go.Proofs.YtenlokaaloenmaaDoorW.PrintMore
set_option linter.unusedVariables false
set_option linter.unusedSimpArgs false

theorem u64_wf {n : Int} (h : (Lit.int .u64 n).wf = true) : 0 ≤ n ∧ n < 18446744073709551616 := by
  simp only [Lit.wf, Bool.and_eq_true, decide_eq_true_eq] at h
  obtain ⟨h1, h2⟩ := h
  have h3 : (0 : Int) ≤ n := h1
  have h4 : n ≤ 18446744073709551615 := h2
  omega
theorem wv_wf {v : S41} (h : wf41 v) : WV v := by
  obtain ⟨h0, h1, h2, h3, h4, h5⟩ := h
  have hm : maxLen ≤ 9223372036854775807 := by unfold maxLen; omega
  exact ⟨i64_of h0, by omega, by omega, u64_wf h3, u64_wf h4⟩

def rcR (l : List S41) (wd : Int) (k : Nat) : Option Bool := (report_Check.f k l).bind fun a => (tipstaffref43_Check.f k l).bind fun b => (report_Count.f k l wd).bind fun c => (tipstaffref43_Count.f k l wd).bind fun d =>
      if (∀ v ∈ l, Pure.WV v) ∧ Num8 c.1 ∧ a = b ∧ c = d then some true else none
theorem rcR_ev (l : List S41) (hw : ∀ v ∈ l, WV v) (wd : Int) : Ev (rcR l wd) true := by
  refine Ev.bind (f := fun a k => (tipstaffref43_Check.f k l).bind fun b => (report_Count.f k l wd).bind fun c => (tipstaffref43_Count.f k l wd).bind fun d => if (∀ v ∈ l, Pure.WV v) ∧ Num8 c.1 ∧ a = b ∧ c = d then some true else none) (check_ev l hw) ?_
  refine Ev.bind (f := fun b k => (report_Count.f k l wd).bind fun c => (tipstaffref43_Count.f k l wd).bind fun d => if (∀ v ∈ l, Pure.WV v) ∧ Num8 c.1 ∧ chk l = b ∧ c = d then some true else none) (rcheck_ev l hw) ?_
  refine Ev.bind (f := fun c k => (tipstaffref43_Count.f k l wd).bind fun d => if (∀ v ∈ l, Pure.WV v) ∧ Num8 c.1 ∧ chk l = chk l ∧ c = d then some true else none) (count_ev l hw wd) ?_
  refine Ev.bind (f := fun d _ => if (∀ v ∈ l, Pure.WV v) ∧ Num8 (coV l wd).1 ∧ chk l = chk l ∧ coV l wd = d then some true else none) (rcount_ev l hw wd) (Ev.of_eq ?_)
  rw [if_pos ⟨hw, coV_8 l wd, rfl, rfl⟩]

theorem ReportCounts : ReportCounts.Stmt := by
  intro l wd hl0 _
  have hw : ∀ v ∈ l, WV v := fun v hv => wv_wf (hl0.2 v hv)
  rcases light_ev l with ⟨h, hl, _, hli⟩ | h
  · have hown : tipstafflaw43_own.f l = some l := if_pos ⟨hl, hli⟩
    have g := Ev.bind (f := fun t k => if t = true then ((tipstafflaw43_own.f l).bind fun h => (report_Check.f k h).bind fun a => (tipstaffref43_Check.f k l).bind fun b => (report_Count.f k h wd).bind fun c => (tipstaffref43_Count.f k l wd).bind fun d => if (∀ v ∈ l, Pure.WV v) ∧ Num8 c.1 ∧ a = b ∧ c = d then some true else none) else some true) h (u := true) ((rcR_ev l hw wd).congr (fun k => by rw [if_pos rfl, hown, Option.bind_some]; rfl))
    exact g.get
  · have g := Ev.bind (f := fun t k => if t = true then ((tipstafflaw43_own.f l).bind fun h => (report_Check.f k h).bind fun a => (tipstaffref43_Check.f k l).bind fun b => (report_Count.f k h wd).bind fun c => (tipstaffref43_Count.f k l wd).bind fun d => if (∀ v ∈ l, Pure.WV v) ∧ Num8 c.1 ∧ a = b ∧ c = d then some true else none) else some true) h (u := true) (Ev.const true)
    exact g.get

end Go.Proofs.YtenlokaaloenmaaDoor.Pure
