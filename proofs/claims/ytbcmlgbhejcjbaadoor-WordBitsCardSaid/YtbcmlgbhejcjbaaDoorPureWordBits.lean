/- Which cars are out in a word, its text, what two words have in common and where they differ: the program and the reference agree. -/
import Derived.Test.YtbcmlgbhejcjbaaDoorAskWordBits
import Derived.Test.YtbcmlgbhejcjbaaDoorWb3
import Derived.Test.YtbcmlgbhejcjbaaDoorWdA
namespace Go.Proofs.YtbcmlgbhejcjbaaDoor.Pure
open Go.RowKit Go.Proofs.YtbcmlgbhejcjbaaDoor.S Go.Proofs.YtbcmlgbhejcjbaaDoorW.PrintWords Go.Proofs.YtbcmlgbhejcjbaaDoorW.PrintLast
set_option linter.unusedVariables false
set_option linter.unusedSimpArgs false

theorem carsV_len (a c : Int) : (carsV a c).1.length ≤ 1000000 := by
  unfold carsV
  by_cases h : okW c [a] = 0
  · have := (okW_zero h).1
    rw [if_pos h]; have h2 := carsL_len a.toNat c.toNat; show (carsL _ _).length ≤ _; omega
  · rw [if_neg h]; show (0 : Nat) ≤ 1000000; omega
theorem differV_len (a b c : Int) : (differV a b c).1.length ≤ 1000000 := by
  unfold differV
  by_cases h : okW c [a, b] = 0
  · have := (okW_zero h).1
    rw [if_pos h]; have h2 := carsL_len (a.toNat ^^^ b.toNat) c.toNat; show (carsL _ _).length ≤ _; omega
  · rw [if_neg h]; show (0 : Nat) ≤ 1000000; omega
theorem WordBits : WordBits.Stmt := by
  intro a b c i0 i1 i2
  refine Ev.get (g := fun k => tipstafflaw33_WordBits.f k a b c) ?_
  have aw : Ev (fun k => (tipstafflaw33_awake.f k).bind fun t => some t) true := awake_ev.bind (f := fun t _ => some t) (Ev.const _)
  have rest : Ev (fun k => tipstafflaw33_WordBits.j0 k a b c false) true := by
    refine Ev.step (g' := fun k => (word_Merge.f k a b c).bind fun bt506 => ((tipstaffref33_Merge.f k a b c).bind fun bt508 => ((word_Differ.f k a b c).bind fun bt510 => ((tipstaffref33_Differ.f k a b c).bind fun bt514 => (if bt506.1 = bt508.1 then (if bt506.2 = bt508.2 then ((tipstaffkit_SameInts.f k bt510.1 bt514.1).bind fun t518 => (if t518 = true then (if bt510.2 = bt514.2 then ((tipstafflaw33_awake.f k).bind fun t519 => (some t519)) else (none)) else (none))) else (none)) else (none)))))) ?_ (fun k => by rw [tipstafflaw33_WordBits.j0, if_neg (by decide)])
    refine (merge_val a b c).bind (f := fun bt506 k => ((tipstaffref33_Merge.f k a b c).bind fun bt508 => ((word_Differ.f k a b c).bind fun bt510 => ((tipstaffref33_Differ.f k a b c).bind fun bt514 => (if bt506.1 = bt508.1 then (if bt506.2 = bt508.2 then ((tipstaffkit_SameInts.f k bt510.1 bt514.1).bind fun t518 => (if t518 = true then (if bt510.2 = bt514.2 then ((tipstafflaw33_awake.f k).bind fun t519 => (some t519)) else (none)) else (none))) else (none)) else (none)))))) ?_
    refine (rmerge_val a b c).bind (f := fun bt508 k => ((word_Differ.f k a b c).bind fun bt510 => ((tipstaffref33_Differ.f k a b c).bind fun bt514 => (if (mergeV a b c).1 = bt508.1 then (if (mergeV a b c).2 = bt508.2 then ((tipstaffkit_SameInts.f k bt510.1 bt514.1).bind fun t518 => (if t518 = true then (if bt510.2 = bt514.2 then ((tipstafflaw33_awake.f k).bind fun t519 => (some t519)) else (none)) else (none))) else (none)) else (none))))) ?_
    refine (differ_val a b c).bind (f := fun bt510 k => ((tipstaffref33_Differ.f k a b c).bind fun bt514 => (if (mergeV a b c).1 = (mergeV a b c).1 then (if (mergeV a b c).2 = (mergeV a b c).2 then ((tipstaffkit_SameInts.f k bt510.1 bt514.1).bind fun t518 => (if t518 = true then (if bt510.2 = bt514.2 then ((tipstafflaw33_awake.f k).bind fun t519 => (some t519)) else (none)) else (none))) else (none)) else (none)))) ?_
    refine (rdiffer_val a b c).bind (f := fun bt514 k => (if (mergeV a b c).1 = (mergeV a b c).1 then (if (mergeV a b c).2 = (mergeV a b c).2 then ((tipstaffkit_SameInts.f k (differV a b c).1 bt514.1).bind fun t518 => (if t518 = true then (if (differV a b c).2 = bt514.2 then ((tipstafflaw33_awake.f k).bind fun t519 => (some t519)) else (none)) else (none))) else (none)) else (none))) ?_
    refine Ev.congr (g' := fun k => (tipstaffkit_SameInts.f k (differV a b c).1 (differV a b c).1).bind fun t518 => (if t518 = true then (if (differV a b c).2 = (differV a b c).2 then ((tipstafflaw33_awake.f k).bind fun t519 => (some t519)) else (none)) else (none))) ?_ (fun k => by rw [if_pos rfl, if_pos rfl])
    refine (ints_self _ (differV_len a b c)).bind (f := fun t518 k => (if t518 = true then (if (differV a b c).2 = (differV a b c).2 then ((tipstafflaw33_awake.f k).bind fun t519 => (some t519)) else (none)) else (none))) ?_
    exact aw.congr (fun k => by rw [if_pos rfl, if_pos rfl])
  refine Ev.congr (g' := fun k => (word_Cars.f k a c).bind fun bt493 => ((tipstaffref33_Cars.f k a c).bind fun bt497 => ((word_Text.f k a c).bind fun bt501 => ((tipstaffref33_Text.f k a c).bind fun bt503 => ((tipstaffkit_SameInts.f k bt493.1 bt497.1).bind fun t505 => (if t505 = true then (if bt493.2 = bt497.2 then (if bt501.1.toList = bt503.1.toList then (tipstafflaw33_WordBits.j0 k a b c (bt501.2 != bt503.2)) else (tipstafflaw33_WordBits.j0 k a b c true)) else (tipstafflaw33_WordBits.j0 k a b c true)) else (tipstafflaw33_WordBits.j0 k a b c true))))))) ?_ (fun k => by rw [tipstafflaw33_WordBits.f])
  refine (cars_val a c).bind (f := fun bt493 k => ((tipstaffref33_Cars.f k a c).bind fun bt497 => ((word_Text.f k a c).bind fun bt501 => ((tipstaffref33_Text.f k a c).bind fun bt503 => ((tipstaffkit_SameInts.f k bt493.1 bt497.1).bind fun t505 => (if t505 = true then (if bt493.2 = bt497.2 then (if bt501.1.toList = bt503.1.toList then (tipstafflaw33_WordBits.j0 k a b c (bt501.2 != bt503.2)) else (tipstafflaw33_WordBits.j0 k a b c true)) else (tipstafflaw33_WordBits.j0 k a b c true)) else (tipstafflaw33_WordBits.j0 k a b c true))))))) ?_
  refine (rcars_val a c).bind (f := fun bt497 k => ((word_Text.f k a c).bind fun bt501 => ((tipstaffref33_Text.f k a c).bind fun bt503 => ((tipstaffkit_SameInts.f k (carsV a c).1 bt497.1).bind fun t505 => (if t505 = true then (if (carsV a c).2 = bt497.2 then (if bt501.1.toList = bt503.1.toList then (tipstafflaw33_WordBits.j0 k a b c (bt501.2 != bt503.2)) else (tipstafflaw33_WordBits.j0 k a b c true)) else (tipstafflaw33_WordBits.j0 k a b c true)) else (tipstafflaw33_WordBits.j0 k a b c true)))))) ?_
  refine (text_val a c).bind (f := fun bt501 k => ((tipstaffref33_Text.f k a c).bind fun bt503 => ((tipstaffkit_SameInts.f k (carsV a c).1 (carsV a c).1).bind fun t505 => (if t505 = true then (if (carsV a c).2 = (carsV a c).2 then (if bt501.1.toList = bt503.1.toList then (tipstafflaw33_WordBits.j0 k a b c (bt501.2 != bt503.2)) else (tipstafflaw33_WordBits.j0 k a b c true)) else (tipstafflaw33_WordBits.j0 k a b c true)) else (tipstafflaw33_WordBits.j0 k a b c true))))) ?_
  refine (rtext_val a c).bind (f := fun bt503 k => ((tipstaffkit_SameInts.f k (carsV a c).1 (carsV a c).1).bind fun t505 => (if t505 = true then (if (carsV a c).2 = (carsV a c).2 then (if (textV a c).1.toList = bt503.1.toList then (tipstafflaw33_WordBits.j0 k a b c ((textV a c).2 != bt503.2)) else (tipstafflaw33_WordBits.j0 k a b c true)) else (tipstafflaw33_WordBits.j0 k a b c true)) else (tipstafflaw33_WordBits.j0 k a b c true)))) ?_
  refine (ints_self _ (carsV_len a c)).bind (f := fun t505 k => (if t505 = true then (if (carsV a c).2 = (carsV a c).2 then (if (textV a c).1.toList = (textV a c).1.toList then (tipstafflaw33_WordBits.j0 k a b c ((textV a c).2 != (textV a c).2)) else (tipstafflaw33_WordBits.j0 k a b c true)) else (tipstafflaw33_WordBits.j0 k a b c true)) else (tipstafflaw33_WordBits.j0 k a b c true))) ?_
  exact rest.congr (fun k => by rw [if_pos rfl, if_pos rfl, if_pos rfl, bne_self_eq_false])

end Go.Proofs.YtbcmlgbhejcjbaaDoor.Pure
