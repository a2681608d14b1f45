/- The words of several slots: the program and the reference agree. -/
import Derived.Test.YtbcmlgbhejcjbaaDoorAskWordSeries
import Derived.Test.YtbcmlgbhejcjbaaDoorWd3
import Derived.Test.YtbcmlgbhejcjbaaDoorWdA
namespace Go.Proofs.YtbcmlgbhejcjbaaDoor.Pure
open Go.RowKit Go.Proofs.YtbcmlgbhejcjbaaDoor.S Go.Proofs.YtbcmlgbhejcjbaaDoorW.PrintWords Go.Proofs.YtbcmlgbhejcjbaaDoorW.PrintLast
set_option linter.unusedVariables false
set_option linter.unusedSimpArgs false

theorem serG_len (a0 : Int) (l2 : List S38) (slot : Int) : ∀ (d j : Nat) (now : List Int), (serG a0 l2 slot d j now).length = d
  | 0, j, now => rfl
  | d + 1, j, now => by rw [serG, List.length_cons, serG_len a0 l2 slot d]
theorem serV_len (a0 : Int) (l1 : List Int) (l2 : List S38) (slot n : Int) : (serV a0 l1 l2 slot n).1.length ≤ 1000000 := by
  unfold serV
  by_cases h : wrongV a0 l1 l2 = 0
  · rw [if_pos h]
    by_cases c : inB slot 1 1099511627776 = true ∧ inB n 0 1000 = true
    · have := (inB_iff _ _ _).1 c.2
      rw [if_pos c]; show (serG _ _ _ _ _ _).length ≤ _; rw [serG_len]; omega
    · rw [if_neg c]; simp
  · rw [if_neg h]; simp
theorem WordSeries : WordSeries.Stmt := by
  intro l1 l2 a0 slot n w0 z0 w1 i0 i1 i2
  refine Ev.get (g := fun k => tipstafflaw33_WordSeries.f k l1 l2 a0 slot n) ?_
  obtain ⟨b, hb, hl⟩ := light_val l1 l2
  have aw : Ev (fun k => (tipstafflaw33_awake.f k).bind fun t => some t) true := awake_ev.bind (f := fun t _ => some t) (Ev.const _)
  have out : Ev (fun k => tipstafflaw33_WordSeries.j0 k l1 l2 true a0 slot n) true := by
    refine aw.step (fun k => ?_)
    rw [tipstafflaw33_WordSeries.j0, if_pos rfl]
  refine Ev.congr (g' := fun k => (tipstafflaw33_light.f k l1 l2).bind fun t399 => (if t399 = true then (if n > 100 then (tipstafflaw33_WordSeries.j0 k l1 l2 (decide (n < 1000)) a0 slot n) else (tipstafflaw33_WordSeries.j0 k l1 l2 false a0 slot n)) else (tipstafflaw33_WordSeries.j0 k l1 l2 true a0 slot n))) ?_ (fun k => by rw [tipstafflaw33_WordSeries.f])
  refine hb.bind (f := fun t399 k => (if t399 = true then (if n > 100 then (tipstafflaw33_WordSeries.j0 k l1 l2 (decide (n < 1000)) a0 slot n) else (tipstafflaw33_WordSeries.j0 k l1 l2 false a0 slot n)) else (tipstafflaw33_WordSeries.j0 k l1 l2 true a0 slot n))) ?_
  cases b with
  | false => exact out.congr (fun k => by rw [if_neg (by decide)])
  | true =>
    have hl := hl rfl
    have run : Ev (fun k => tipstafflaw33_WordSeries.j0 k l1 l2 false a0 slot n) true := by
      refine Ev.step (g' := fun k => (word_Series.f k a0 l1 l2 slot n).bind fun bt407 => ((tipstaffref33_Series.f k a0 l1 l2 slot n).bind fun bt411 => ((tipstaffkit_SameInts.f k bt407.1 bt411.1).bind fun t415 => (if t415 = true then (if bt407.2 = bt411.2 then ((tipstaffkit_SameInts.f k l1 l1).bind fun t416 => (if t416 = true then ((tipstafflaw33_sameEntries.f k l2 l2).bind fun t417 => (if t417 = true then ((tipstafflaw33_awake.f k).bind fun t418 => (some t418)) else (none))) else (none))) else (none)) else (none))))) ?_ (fun k => by
        rw [tipstafflaw33_WordSeries.j0, if_neg (by decide), own_val l1 (by omega), Option.bind_some, ownE_val l2 (by omega), Option.bind_some])
      refine (ser_val a0 l1 l2 slot n).bind (f := fun bt407 k => ((tipstaffref33_Series.f k a0 l1 l2 slot n).bind fun bt411 => ((tipstaffkit_SameInts.f k bt407.1 bt411.1).bind fun t415 => (if t415 = true then (if bt407.2 = bt411.2 then ((tipstaffkit_SameInts.f k l1 l1).bind fun t416 => (if t416 = true then ((tipstafflaw33_sameEntries.f k l2 l2).bind fun t417 => (if t417 = true then ((tipstafflaw33_awake.f k).bind fun t418 => (some t418)) else (none))) else (none))) else (none)) else (none))))) ?_
      refine (rser_val a0 l1 l2 slot n).bind (f := fun bt411 k => ((tipstaffkit_SameInts.f k (serV a0 l1 l2 slot n).1 bt411.1).bind fun t415 => (if t415 = true then (if (serV a0 l1 l2 slot n).2 = bt411.2 then ((tipstaffkit_SameInts.f k l1 l1).bind fun t416 => (if t416 = true then ((tipstafflaw33_sameEntries.f k l2 l2).bind fun t417 => (if t417 = true then ((tipstafflaw33_awake.f k).bind fun t418 => (some t418)) else (none))) else (none))) else (none)) else (none)))) ?_
      refine (ints_self _ (serV_len a0 l1 l2 slot n)).bind (f := fun t415 k => (if t415 = true then (if (serV a0 l1 l2 slot n).2 = (serV a0 l1 l2 slot n).2 then ((tipstaffkit_SameInts.f k l1 l1).bind fun t416 => (if t416 = true then ((tipstafflaw33_sameEntries.f k l2 l2).bind fun t417 => (if t417 = true then ((tipstafflaw33_awake.f k).bind fun t418 => (some t418)) else (none))) else (none))) else (none)) else (none))) ?_
      refine Ev.congr (g' := fun k => (tipstaffkit_SameInts.f k l1 l1).bind fun t416 => (if t416 = true then ((tipstafflaw33_sameEntries.f k l2 l2).bind fun t417 => (if t417 = true then ((tipstafflaw33_awake.f k).bind fun t418 => (some t418)) else (none))) else (none))) ?_ (fun k => by rw [if_pos rfl, if_pos rfl])
      refine (ints_self l1 (by omega)).bind (f := fun t416 k => (if t416 = true then ((tipstafflaw33_sameEntries.f k l2 l2).bind fun t417 => (if t417 = true then ((tipstafflaw33_awake.f k).bind fun t418 => (some t418)) else (none))) else (none))) ?_
      refine Ev.congr (g' := fun k => (tipstafflaw33_sameEntries.f k l2 l2).bind fun t417 => (if t417 = true then ((tipstafflaw33_awake.f k).bind fun t418 => (some t418)) else (none))) ?_ (fun k => by rw [if_pos rfl])
      refine (ents_self l2 (by omega)).bind (f := fun t417 k => (if t417 = true then ((tipstafflaw33_awake.f k).bind fun t418 => (some t418)) else (none))) ?_
      exact aw.congr (fun k => by rw [if_pos rfl])
    by_cases h1 : n > 100
    · by_cases h2 : n < 1000
      · exact out.congr (fun k => by rw [if_pos rfl, if_pos h1, decide_eq_true h2])
      · exact run.congr (fun k => by rw [if_pos rfl, if_pos h1, decide_eq_false h2])
    · exact run.congr (fun k => by rw [if_pos rfl, if_neg h1])

end Go.Proofs.YtbcmlgbhejcjbaaDoor.Pure
