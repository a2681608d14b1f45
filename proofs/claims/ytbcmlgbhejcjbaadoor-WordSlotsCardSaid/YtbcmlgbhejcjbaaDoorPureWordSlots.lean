/- The word of a slot and the loads at its end: the program and the reference agree. -/
import Derived.Test.YtbcmlgbhejcjbaaDoorAskWordSlots
import Derived.Test.YtbcmlgbhejcjbaaDoorWd2
import Derived.Test.YtbcmlgbhejcjbaaDoorWdA
namespace Go.Proofs.YtbcmlgbhejcjbaaDoor.Pure
open Go.RowKit Go.Proofs.YtbcmlgbhejcjbaaDoor.S Go.Proofs.YtbcmlgbhejcjbaaDoorW.PrintWords Go.Proofs.YtbcmlgbhejcjbaaDoorW.PrintLast
set_option linter.unusedVariables false
set_option linter.unusedSimpArgs false

theorem ofV_len (a0 : Int) (l1 : List Int) (l2 : List S38) : (ofV a0 l1 l2).2.1.length ≤ 1000000 := by
  unfold ofV
  by_cases h : wrongV a0 l1 l2 = 0
  · rw [if_pos h]
    have := (wrongV_ok h).1
    show (afterW _ _).length ≤ _
    rw [afterW_len]; omega
  · rw [if_neg h]; simp
theorem WordSlots : WordSlots.Stmt := by
  intro a0 l1 l2 w0 w1 z1 w2
  refine Ev.get (g := fun k => tipstafflaw33_WordSlots.f k a0 l1 l2) ?_
  obtain ⟨b, hb, hl⟩ := light_val l1 l2
  have aw : Ev (fun k => (tipstafflaw33_awake.f k).bind fun t => some t) true := awake_ev.bind (f := fun t _ => some t) (Ev.const _)
  cases b with
  | false =>
    refine Ev.congr (g' := fun k => (tipstafflaw33_light.f k l1 l2).bind fun t231 => if t231 = true then ((tipstaffkit_OwnInts.f l1).bind fun t233 => ((tipstafflaw33_ownEntries.f l2).bind fun t236 => ((word_Of.f a0 t233 t236).bind fun bt239 => ((tipstaffref33_Of.f k a0 l1 l2).bind fun bt244 => (if bt239.1 = bt244.1 then ((tipstaffkit_SameInts.f k bt239.2.1 bt244.2.1).bind fun t249 => (if t249 = true then (if bt239.2.2 = bt244.2.2 then ((tipstaffkit_SameInts.f k t233 l1).bind fun t250 => (if t250 = true then ((tipstafflaw33_sameEntries.f k t236 l2).bind fun t251 => (if t251 = true then ((tipstafflaw33_awake.f k).bind fun t252 => (some t252)) else (none))) else (none))) else (none)) else (none))) else (none)))))) else ((tipstafflaw33_awake.f k).bind fun t232 => (some t232))) ?_ (fun k => by rw [tipstafflaw33_WordSlots.f])
    refine hb.bind (f := fun t231 k => if t231 = true then ((tipstaffkit_OwnInts.f l1).bind fun t233 => ((tipstafflaw33_ownEntries.f l2).bind fun t236 => ((word_Of.f a0 t233 t236).bind fun bt239 => ((tipstaffref33_Of.f k a0 l1 l2).bind fun bt244 => (if bt239.1 = bt244.1 then ((tipstaffkit_SameInts.f k bt239.2.1 bt244.2.1).bind fun t249 => (if t249 = true then (if bt239.2.2 = bt244.2.2 then ((tipstaffkit_SameInts.f k t233 l1).bind fun t250 => (if t250 = true then ((tipstafflaw33_sameEntries.f k t236 l2).bind fun t251 => (if t251 = true then ((tipstafflaw33_awake.f k).bind fun t252 => (some t252)) else (none))) else (none))) else (none)) else (none))) else (none)))))) else ((tipstafflaw33_awake.f k).bind fun t232 => (some t232))) ?_
    exact aw.congr (fun k => by rw [if_neg (by decide)])
  | true =>
    have hl := hl rfl
    refine Ev.congr (g' := fun k => (tipstafflaw33_light.f k l1 l2).bind fun t231 => if t231 = true then ((tipstaffref33_Of.f k a0 l1 l2).bind fun bt244 => (if (ofV a0 l1 l2).1 = bt244.1 then ((tipstaffkit_SameInts.f k (ofV a0 l1 l2).2.1 bt244.2.1).bind fun t249 => (if t249 = true then (if (ofV a0 l1 l2).2.2 = bt244.2.2 then ((tipstaffkit_SameInts.f k l1 l1).bind fun t250 => (if t250 = true then ((tipstafflaw33_sameEntries.f k l2 l2).bind fun t251 => (if t251 = true then ((tipstafflaw33_awake.f k).bind fun t252 => (some t252)) else (none))) else (none))) else (none)) else (none))) else (none))) else ((tipstafflaw33_awake.f k).bind fun t232 => (some t232))) ?_ (fun k => by rw [tipstafflaw33_WordSlots.f, own_val l1 (by omega), Option.bind_some, ownE_val l2 (by omega), Option.bind_some, Of_val, Option.bind_some])
    refine hb.bind (f := fun t231 k => if t231 = true then ((tipstaffref33_Of.f k a0 l1 l2).bind fun bt244 => (if (ofV a0 l1 l2).1 = bt244.1 then ((tipstaffkit_SameInts.f k (ofV a0 l1 l2).2.1 bt244.2.1).bind fun t249 => (if t249 = true then (if (ofV a0 l1 l2).2.2 = bt244.2.2 then ((tipstaffkit_SameInts.f k l1 l1).bind fun t250 => (if t250 = true then ((tipstafflaw33_sameEntries.f k l2 l2).bind fun t251 => (if t251 = true then ((tipstafflaw33_awake.f k).bind fun t252 => (some t252)) else (none))) else (none))) else (none)) else (none))) else (none))) else ((tipstafflaw33_awake.f k).bind fun t232 => (some t232))) ?_
    refine Ev.congr (g' := fun k => (tipstaffref33_Of.f k a0 l1 l2).bind fun bt244 => (if (ofV a0 l1 l2).1 = bt244.1 then ((tipstaffkit_SameInts.f k (ofV a0 l1 l2).2.1 bt244.2.1).bind fun t249 => (if t249 = true then (if (ofV a0 l1 l2).2.2 = bt244.2.2 then ((tipstaffkit_SameInts.f k l1 l1).bind fun t250 => (if t250 = true then ((tipstafflaw33_sameEntries.f k l2 l2).bind fun t251 => (if t251 = true then ((tipstafflaw33_awake.f k).bind fun t252 => (some t252)) else (none))) else (none))) else (none)) else (none))) else (none))) ?_ (fun k => by rw [if_pos rfl])
    refine (rOf_val a0 l1 l2).bind (f := fun bt244 k => (if (ofV a0 l1 l2).1 = bt244.1 then ((tipstaffkit_SameInts.f k (ofV a0 l1 l2).2.1 bt244.2.1).bind fun t249 => (if t249 = true then (if (ofV a0 l1 l2).2.2 = bt244.2.2 then ((tipstaffkit_SameInts.f k l1 l1).bind fun t250 => (if t250 = true then ((tipstafflaw33_sameEntries.f k l2 l2).bind fun t251 => (if t251 = true then ((tipstafflaw33_awake.f k).bind fun t252 => (some t252)) else (none))) else (none))) else (none)) else (none))) else (none))) ?_
    refine Ev.congr (g' := fun k => (tipstaffkit_SameInts.f k (ofV a0 l1 l2).2.1 (ofV a0 l1 l2).2.1).bind fun t249 => (if t249 = true then (if (ofV a0 l1 l2).2.2 = (ofV a0 l1 l2).2.2 then ((tipstaffkit_SameInts.f k l1 l1).bind fun t250 => (if t250 = true then ((tipstafflaw33_sameEntries.f k l2 l2).bind fun t251 => (if t251 = true then ((tipstafflaw33_awake.f k).bind fun t252 => (some t252)) else (none))) else (none))) else (none)) else (none))) ?_ (fun k => by rw [if_pos rfl])
    refine (ints_self _ (ofV_len a0 l1 l2)).bind (f := fun t249 k => (if t249 = true then (if (ofV a0 l1 l2).2.2 = (ofV a0 l1 l2).2.2 then ((tipstaffkit_SameInts.f k l1 l1).bind fun t250 => (if t250 = true then ((tipstafflaw33_sameEntries.f k l2 l2).bind fun t251 => (if t251 = true then ((tipstafflaw33_awake.f k).bind fun t252 => (some t252)) else (none))) else (none))) else (none)) else (none))) ?_
    refine Ev.congr (g' := fun k => (tipstaffkit_SameInts.f k l1 l1).bind fun t250 => (if t250 = true then ((tipstafflaw33_sameEntries.f k l2 l2).bind fun t251 => (if t251 = true then ((tipstafflaw33_awake.f k).bind fun t252 => (some t252)) else (none))) else (none))) ?_ (fun k => by rw [if_pos rfl, if_pos rfl])
    refine (ints_self l1 (by omega)).bind (f := fun t250 k => (if t250 = true then ((tipstafflaw33_sameEntries.f k l2 l2).bind fun t251 => (if t251 = true then ((tipstafflaw33_awake.f k).bind fun t252 => (some t252)) else (none))) else (none))) ?_
    refine Ev.congr (g' := fun k => (tipstafflaw33_sameEntries.f k l2 l2).bind fun t251 => (if t251 = true then ((tipstafflaw33_awake.f k).bind fun t252 => (some t252)) else (none))) ?_ (fun k => by rw [if_pos rfl])
    refine (ents_self l2 (by omega)).bind (f := fun t251 k => (if t251 = true then ((tipstafflaw33_awake.f k).bind fun t252 => (some t252)) else (none))) ?_
    exact aw.congr (fun k => by rw [if_pos rfl])

end Go.Proofs.YtbcmlgbhejcjbaaDoor.Pure
