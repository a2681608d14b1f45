/- Which ticks are jumps, and which are stops: the program and the reference agree. -/
import Derived.Test.YtlpdoieokgeikaaAskLimitJumps
import Derived.Test.YtlpdoieokgeikaaLim3
import Derived.Test.YtlpdoieokgeikaaLimA
namespace Go.Proofs.Ytlpdoieokgeikaa.Pure
open Go.RowKit Go.Proofs.Ytlpdoieokgeikaa.S Go.Proofs.YtlpdoieokgeikaaW.PrintWords Go.Proofs.YtlpdoieokgeikaaW.PrintLast
set_option linter.unusedVariables false
set_option linter.unusedSimpArgs false

theorem pairG_len (q : S38 → S38 → Bool) (l : List S38) : ∀ (d i : Nat) (acc : List Int), (pairG q l d i acc).length ≤ acc.length + d
  | 0, i, acc => by simp [pairG]
  | d + 1, i, acc => by
    rw [pairG]
    refine Nat.le_trans (pairG_len q l d (i + 1) _) ?_
    split <;> (try simp) <;> omega
theorem pairV_len (q : S38 → S38 → Bool) (l : List S38) : (pairV q l).1.length ≤ l.length := by
  unfold pairV; split
  · have := pairG_len q l (l.length - 1) 1 []
    simp at this
    show (pairG q l (l.length - 1) 1 []).length ≤ _
    omega
  · simp

theorem LimitJumps : LimitJumps.Stmt := by
  intro l w1
  refine Ev.get (g := fun k => tipstafflaw14_LimitJumps.f k l) ?_
  obtain ⟨b, hb, hl⟩ := light_val l
  have aw : Ev (fun k => (tipstafflaw14_awake.f k).bind fun t => some t) true := awake_ev.bind (f := fun t _ => some t) (Ev.const _)
  cases b with
  | false =>
    exact aw.congr (fun k => by rw [tipstafflaw14_LimitJumps.f, hb, Option.bind_some, if_neg (by decide)])
  | true =>
    have hl := hl rfl
    have l1 := pairV_len jumpB l
    have l2 := pairV_len stopB l
    refine Ev.congr (g' := fun k => (limit_Jumps.f k l).bind fun bt334 => ((tipstaffref14_Jumps.f k l).bind fun bt338 => ((limit_Stops.f k l).bind fun bt342 => ((tipstaffref14_Stops.f k l).bind fun bt346 => ((tipstaffkit_SameInts.f k bt334.1 bt338.1).bind fun t350 => (if t350 = true then (if bt334.2 = bt338.2 then ((tipstaffkit_SameInts.f k bt342.1 bt346.1).bind fun t351 => (if t351 = true then (if bt342.2 = bt346.2 then ((tipstafflaw14_same.f k l l).bind fun t352 => (if t352 = true then ((tipstafflaw14_awake.f k).bind fun t353 => (some t353)) else (none))) else (none)) else (none))) else (none)) else (none))))))) ?_ (fun k => by rw [tipstafflaw14_LimitJumps.f, hb, Option.bind_some, if_pos rfl, own_val l (by omega), Option.bind_some])
    refine (jump_val l).bind (f := fun bt334 k => _) ?_
    refine (rjumps_val l).bind (f := fun bt338 k => _) ?_
    refine (stop_val l).bind (f := fun bt342 k => _) ?_
    refine (rstops_val l).bind (f := fun bt346 k => _) ?_
    refine (ints_self (pairV jumpB l).1 (by omega)).bind (f := fun t350 k => _) ?_
    refine Ev.congr (g' := fun k => ((tipstaffkit_SameInts.f k (pairV stopB l).1 (pairV stopB l).1).bind fun t351 => (if t351 = true then ((tipstafflaw14_same.f k l l).bind fun t352 => (if t352 = true then ((tipstafflaw14_awake.f k).bind fun t353 => (some t353)) else (none))) else (none)))) ?_ (fun k => by rw [if_pos rfl, if_pos rfl]; simp only [if_true])
    refine (ints_self (pairV stopB l).1 (by omega)).bind (f := fun t350 k => _) ?_
    refine Ev.congr (g' := fun k => (tipstafflaw14_same.f k l l).bind fun t352 => (if t352 = true then ((tipstafflaw14_awake.f k).bind fun t353 => (some t353)) else (none))) ?_ (fun k => by rw [if_pos rfl])
    refine (ticks_self l (by omega)).bind (f := fun t291 k => _) ?_
    exact aw.congr (fun k => by rw [if_pos rfl])

end Go.Proofs.Ytlpdoieokgeikaa.Pure
