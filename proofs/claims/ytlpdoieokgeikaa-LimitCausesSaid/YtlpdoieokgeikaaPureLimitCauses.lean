/- Which ticks are valid, and which causes a tick has: the program and the reference agree. -/
import Derived.Test.YtlpdoieokgeikaaAskLimitCauses
import Derived.Test.YtlpdoieokgeikaaS5
import Derived.Test.YtlpdoieokgeikaaS9
import Derived.Test.YtlpdoieokgeikaaLim2
import Derived.Test.YtlpdoieokgeikaaLimA
namespace Go.Proofs.Ytlpdoieokgeikaa.Pure
open Go.RowKit Go.Proofs.Ytlpdoieokgeikaa.S Go.Proofs.YtlpdoieokgeikaaW.PrintWords Go.Proofs.YtlpdoieokgeikaaW.PrintLast
set_option linter.unusedVariables false
set_option linter.unusedSimpArgs false

def causesV (m : S38) (h s : Int) : List Int × Int := if askV [m] h s = 0 then (causV m h s, 0) else ([], askV [m] h s)
theorem causes_val (m : S38) (h s : Int) : Ev (fun k => limit_Causes.f k m.f0 m.f1 m.f2 m.f3 m.f4 h s) (causesV m h s) := by
  refine (checked_val [m] h s).bind (f := fun t _ => if t = 0 then (some (causV m h s)).bind fun t114 => some (t114, 0) else some ([], t)) (Ev.of_eq ?_)
  unfold causesV; split <;> rfl
theorem rcausesv (m : S38) (h s : Int) : Ev (fun k => tipstaffref14_Causes.f k m.f0 m.f1 m.f2 m.f3 m.f4 h s) (causesV m h s) := by
  refine (asked_val [m] h s).bind (f := fun t k => if t = 0 then (tipstaffref14_causes.f k m.f0 m.f1 m.f2 m.f3 m.f4 h s).bind fun t298 => some (t298, 0) else some ([], t)) ?_
  unfold causesV
  by_cases e : askV [m] h s = 0
  · rw [if_pos e]
    refine Ev.congr ((rcauses_ev m h s).bind (f := fun t _ => some (t, (0 : Int))) (Ev.const _)) (fun k => by rw [if_pos e])
  · rw [if_neg e]
    exact (Ev.const _).congr (fun k => by rw [if_neg e])

theorem LimitCauses : LimitCauses.Stmt := by
  intro a b c d e h s w1 w2 w3 w4 w5
  refine Ev.get (g := fun k => tipstafflaw14_LimitCauses.f k a b c d e h s) ?_
  have hc := chk_val ⟨a, b, c, d, e⟩
  have hr := rchk_val ⟨a, b, c, d, e⟩
  dsimp only at hc hr
  unfold tipstafflaw14_LimitCauses.f
  refine (causes_val ⟨a, b, c, d, e⟩ h s).bind (f := fun bt302 k => _) ?_
  refine (rcausesv ⟨a, b, c, d, e⟩ h s).bind (f := fun bt306 k => _) ?_
  have hl : (causesV ⟨a, b, c, d, e⟩ h s).1.length ≤ 1000000 := by
    have := causV_len ⟨a, b, c, d, e⟩ h s
    unfold causesV; split
    · show (causV _ h s).length ≤ _; omega
    · simp
  refine Ev.congr (g' := fun k => (tipstaffkit_SameInts.f k (causesV ⟨a, b, c, d, e⟩ h s).1 (causesV ⟨a, b, c, d, e⟩ h s).1).bind fun t => if t = true then (tipstafflaw14_awake.f k).bind fun t313 => some t313 else none) ?_ (fun k => by rw [hc, hr, Option.bind_some, Option.bind_some, if_pos rfl, if_pos rfl])
  refine (ints_self _ hl).bind (f := fun t k => if t = true then (tipstafflaw14_awake.f k).bind fun t313 => some t313 else none) ?_
  refine Ev.congr (awake_ev.bind (f := fun t _ => some t) (Ev.const _)) (fun k => by rw [if_pos rfl])

end Go.Proofs.Ytlpdoieokgeikaa.Pure
