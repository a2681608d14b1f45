/- Where a watch trips, and how many ticks have which cause: the program and the reference agree. -/
import Derived.Test.YtlpdoieokgeikaaAskLimitWatches
import Derived.Test.YtlpdoieokgeikaaLim2
import Derived.Test.YtlpdoieokgeikaaLimA
namespace Go.Proofs.Ytlpdoieokgeikaa.Pure
open Go.RowKit Go.Proofs.Ytlpdoieokgeikaa.S Go.Proofs.YtlpdoieokgeikaaW.PrintWords Go.Proofs.YtlpdoieokgeikaaW.PrintLast
set_option linter.unusedVariables false
set_option linter.unusedSimpArgs false

theorem LimitWatches : LimitWatches.Stmt := by
  intro l h s w1 w2 w3
  refine Ev.get (g := fun k => tipstafflaw14_LimitWatches.f k l h s) ?_
  obtain ⟨b, hb, hl⟩ := light_val l
  have aw : Ev (fun k => (tipstafflaw14_awake.f k).bind fun t => some t) true := awake_ev.bind (f := fun t _ => some t) (Ev.const _)
  cases b with
  | false =>
    exact aw.congr (fun k => by rw [tipstafflaw14_LimitWatches.f, hb, Option.bind_some, if_neg (by decide)])
  | true =>
    have hl := hl rfl
    have hlen : (countV l h s).1.length ≤ 1000000 := by
      unfold countV; split
      · rw [show (outL (cntsF h s l (fun _ => 0)) 5, (0 : Int)).1 = outL (cntsF h s l (fun _ => 0)) 5 from rfl, outL_len]; omega
      · simp
    refine Ev.congr (g' := fun k => (limit_Watch.f k l h s).bind fun bt274 => (tipstaffref14_Watch.f k l h s).bind fun bt278 => (limit_Counts.f k l h s).bind fun bt282 => (tipstaffref14_Counts.f k l h s).bind fun bt286 => if (bt274.1 == bt278.1 && (bt274.2.1 == bt278.2.1)) = true then (if bt274.2.2 = bt278.2.2 then ((tipstaffkit_SameInts.f k bt282.1 bt286.1).bind fun t290 => (if t290 = true then (if bt282.2 = bt286.2 then ((tipstafflaw14_same.f k l l).bind fun t291 => (if t291 = true then ((tipstafflaw14_awake.f k).bind fun t292 => (some t292)) else (none))) else (none)) else (none))) else (none)) else (none)) ?_ (fun k => by rw [tipstafflaw14_LimitWatches.f, hb, Option.bind_some, if_pos rfl, own_val l (by omega), Option.bind_some])
    refine (watch_val l h s).bind (f := fun bt274 k => (tipstaffref14_Watch.f k l h s).bind fun bt278 => (limit_Counts.f k l h s).bind fun bt282 => (tipstaffref14_Counts.f k l h s).bind fun bt286 => if (bt274.1 == bt278.1 && (bt274.2.1 == bt278.2.1)) = true then (if bt274.2.2 = bt278.2.2 then ((tipstaffkit_SameInts.f k bt282.1 bt286.1).bind fun t290 => (if t290 = true then (if bt282.2 = bt286.2 then ((tipstafflaw14_same.f k l l).bind fun t291 => (if t291 = true then ((tipstafflaw14_awake.f k).bind fun t292 => (some t292)) else (none))) else (none)) else (none))) else (none)) else (none)) ?_
    refine (rwatch_val l h s).bind (f := fun bt278 k => (limit_Counts.f k l h s).bind fun bt282 => (tipstaffref14_Counts.f k l h s).bind fun bt286 => if ((watchV l h s).1 == bt278.1 && ((watchV l h s).2.1 == bt278.2.1)) = true then (if (watchV l h s).2.2 = bt278.2.2 then ((tipstaffkit_SameInts.f k bt282.1 bt286.1).bind fun t290 => (if t290 = true then (if bt282.2 = bt286.2 then ((tipstafflaw14_same.f k l l).bind fun t291 => (if t291 = true then ((tipstafflaw14_awake.f k).bind fun t292 => (some t292)) else (none))) else (none)) else (none))) else (none)) else (none)) ?_
    refine Ev.congr (g' := fun k => (limit_Counts.f k l h s).bind fun bt282 => (tipstaffref14_Counts.f k l h s).bind fun bt286 => ((tipstaffkit_SameInts.f k bt282.1 bt286.1).bind fun t290 => (if t290 = true then (if bt282.2 = bt286.2 then ((tipstafflaw14_same.f k l l).bind fun t291 => (if t291 = true then ((tipstafflaw14_awake.f k).bind fun t292 => (some t292)) else (none))) else (none)) else (none)))) ?_ (fun k => by simp)
    refine (count_val l h s).bind (f := fun bt282 k => (tipstaffref14_Counts.f k l h s).bind fun bt286 => ((tipstaffkit_SameInts.f k bt282.1 bt286.1).bind fun t290 => (if t290 = true then (if bt282.2 = bt286.2 then ((tipstafflaw14_same.f k l l).bind fun t291 => (if t291 = true then ((tipstafflaw14_awake.f k).bind fun t292 => (some t292)) else (none))) else (none)) else (none)))) ?_
    refine (rcount_val l h s).bind (f := fun bt286 k => ((tipstaffkit_SameInts.f k (countV l h s).1 bt286.1).bind fun t290 => (if t290 = true then (if (countV l h s).2 = bt286.2 then ((tipstafflaw14_same.f k l l).bind fun t291 => (if t291 = true then ((tipstafflaw14_awake.f k).bind fun t292 => (some t292)) else (none))) else (none)) else (none)))) ?_
    refine (ints_self _ hlen).bind (f := fun t290 k => (if t290 = true then (if (countV l h s).2 = (countV l h s).2 then ((tipstafflaw14_same.f k l l).bind fun t291 => (if t291 = true then ((tipstafflaw14_awake.f k).bind fun t292 => (some t292)) else (none))) else (none)) else (none))) ?_
    refine Ev.congr (g' := fun k => (tipstafflaw14_same.f k l l).bind fun t291 => (if t291 = true then ((tipstafflaw14_awake.f k).bind fun t292 => (some t292)) else (none))) ?_ (fun k => by rw [if_pos rfl, if_pos rfl])
    refine (ticks_self l (by omega)).bind (f := fun t291 k => (if t291 = true then ((tipstafflaw14_awake.f k).bind fun t292 => (some t292)) else (none))) ?_
    exact aw.congr (fun k => by rw [if_pos rfl])

end Go.Proofs.Ytlpdoieokgeikaa.Pure
