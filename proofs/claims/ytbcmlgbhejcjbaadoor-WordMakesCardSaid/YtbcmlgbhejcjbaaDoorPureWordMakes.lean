/- The word of some cars, and which word a text is: the program and the reference agree. -/
import Derived.Test.YtbcmlgbhejcjbaaDoorAskWordMakes
import Derived.Test.YtbcmlgbhejcjbaaDoorWb1
import Derived.Test.YtbcmlgbhejcjbaaDoorWdA
namespace Go.Proofs.YtbcmlgbhejcjbaaDoor.Pure
open Go.RowKit Go.Proofs.YtbcmlgbhejcjbaaDoor.S Go.Proofs.YtbcmlgbhejcjbaaDoorW.PrintWords Go.Proofs.YtbcmlgbhejcjbaaDoorW.PrintLast
set_option linter.unusedVariables false
set_option linter.unusedSimpArgs false

theorem or_zero : ∀ w : Fin 256, Go.bits .or .u64 (w.val : Int) 0 = (w.val : Int) := by decide +kernel
theorem or_zero' (w : Int) (h0 : 0 ≤ w) (h1 : w < 256) : Go.bits .or .u64 w 0 = w := by
  obtain ⟨n, rfl⟩ : ∃ n : Nat, w = n := ⟨w.toNat, by omega⟩
  exact or_zero ⟨n, by omega⟩
theorem pow_le8 (i : Nat) (h : i ≤ 8) : (2 : Int) ^ i ≤ 256 := by
  have : (2 : Nat) ^ i ≤ 2 ^ 8 := Nat.pow_le_pow_right (by decide) h
  have e : ((2 ^ i : Nat) : Int) = (2 : Int) ^ i := Int.natCast_pow 2 i
  have h3 : ((2 ^ i : Nat) : Int) ≤ ((2 ^ 8 : Nat) : Int) := Int.ofNat_le.2 this
  rw [e] at h3; exact h3
theorem rwords_ev' (i : Nat) (h : i ≤ 8) : Ev (fun k => tipstaffref33_words.f k (i : Int)) ((2 : Int) ^ i) := by
  have e : ((2 ^ i : Nat) : Int) = (2 : Int) ^ i := Int.natCast_pow 2 i
  exact Ev.val (rwords_ev i h) e
def parseV (s : ByteArray) : Int × Int × Int := if inB (s.size : Int) 1 8 = true then (match parseG s s.size 0 0 with | some w => (wrap64 w, (s.size : Int), 0) | none => (0, 0, 3)) else (0, 0, 3)
theorem parse_val (s : ByteArray) : word_Parse.f s = some (parseV s) := by
  rw [word_Parse.f, parseV]
  by_cases h : inB (s.size : Int) 1 8 = true
  · rw [if_pos h, if_pos h]; cases parseG s s.size 0 0 <;> rfl
  · rw [if_neg h, if_neg h]
theorem rparse_loop (s : ByteArray) (hs : s.size ≤ 8) : ∀ (d i : Nat) (w : Int), i + d = s.size → 0 ≤ w → w < 2 ^ i →
    Ev (fun k => tipstaffref33_Parse.l0 k s w (i : Int)) (match parseG s d i w with | some w => (wrap64 w, (s.size : Int), 0) | none => (0, 0, 3)) := by
  intro d
  induction d with
  | zero =>
    intro i w hi h0 h1
    have := pow_le8 i (by omega)
    refine (Ev.const _).step (fun k => ?_)
    rw [tipstaffref33_Parse.l0, if_neg (by omega), parseG]
    show _ = some (wrap64 w, (s.size : Int), 0)
    rw [wrap_id w (by omega) (by omega)]
  | succ d ih =>
    intro i w hi h0 h1
    have hp := pow_le8 i (by omega)
    have e2 : (2 : Int) ^ (i + 1) = 2 * 2 ^ i := by rw [Int.pow_succ]; omega
    rw [parseG]
    by_cases h48 : bt s (i : Int) = 48
    · rw [if_pos h48, or_zero' w h0 (by omega)]
      refine (ih (i + 1) w (by omega) h0 (by omega)).step (fun k => ?_)
      rw [tipstaffref33_Parse.l0, if_pos (by omega), if_pos (by omega), if_neg (by omega), if_pos h48, wrap_succ i (by omega)]
    · rw [if_neg h48]
      by_cases h49 : bt s (i : Int) = 49
      · rw [if_pos h49, or_val i w (by omega) h0 h1]
        refine Ev.step (g' := fun k => (tipstaffref33_words.f k (i : Int)).bind fun t431 => (tipstaffref33_Parse.l0 k s (wrap64 (w + t431)) (wrap64 ((i : Int) + 1)))) ?_ (fun k => by rw [tipstaffref33_Parse.l0, if_pos (by omega), if_pos (by omega), if_pos h49])
        refine (rwords_ev' i (by omega)).bind (f := fun t431 k => (tipstaffref33_Parse.l0 k s (wrap64 (w + t431)) (wrap64 ((i : Int) + 1)))) ?_
        rw [wrap_id (w + 2 ^ i) (by omega) (by omega), wrap_succ i (by omega)]
        exact ih (i + 1) (w + 2 ^ i) (by omega) (by omega) (by omega)
      · rw [if_neg h49]
        refine (Ev.const _).step (fun k => ?_)
        rw [tipstaffref33_Parse.l0, if_pos (by omega), if_pos (by omega), if_neg h49, if_neg h48]
theorem rparse_val (s : ByteArray) : Ev (fun k => tipstaffref33_Parse.f k s) (parseV s) := by
  unfold parseV
  have bad : Ev (fun k => tipstaffref33_Parse.j0 k s true) (0, 0, 3) := by
    refine (Ev.const _).step (fun k => ?_)
    rw [tipstaffref33_Parse.j0, if_pos rfl]
  by_cases h : inB (s.size : Int) 1 8 = true
  · have h' := (inB_iff _ _ _).1 h
    rw [if_pos h]
    refine Ev.congr (g' := fun k => tipstaffref33_Parse.j0 k s false) ?_ (fun k => by rw [tipstaffref33_Parse.f, if_neg (by omega), decide_eq_false (by omega)])
    refine (rparse_loop s (by omega) _ 0 0 (Nat.zero_add _) (by omega) (by decide)).step (fun k => ?_)
    rw [tipstaffref33_Parse.j0, if_neg (by decide)]; rfl
  · have h' := (inB_not _ _ _).1 (by simpa using h)
    rw [if_neg h]
    refine bad.congr (fun k => ?_)
    rw [tipstaffref33_Parse.f]
    by_cases h1 : (s.size : Int) < 1
    · rw [if_pos h1]
    · rw [if_neg h1, decide_eq_true (by omega)]
theorem WordMakes : WordMakes.Stmt := by
  intro l0 a1 s ⟨hm, hw⟩ z i1 hs
  refine Ev.get (g := fun k => tipstafflaw33_WordMakes.f k l0 a1 s) ?_
  have aw : Ev (fun k => (tipstafflaw33_awake.f k).bind fun t => some t) true := awake_ev.bind (f := fun t _ => some t) (Ev.const _)
  have out : Ev (fun k => tipstafflaw33_WordMakes.j0 k l0 a1 s true) true := by
    refine aw.step (fun k => ?_)
    rw [tipstafflaw33_WordMakes.j0, if_pos rfl]
  by_cases h1 : (l0.length : Int) > 20
  · exact out.congr (fun k => by rw [tipstafflaw33_WordMakes.f, if_pos h1])
  by_cases h2 : (s.size : Int) > 20
  · exact out.congr (fun k => by rw [tipstafflaw33_WordMakes.f, if_neg h1, decide_eq_true h2])
  refine Ev.congr (g' := fun k => tipstafflaw33_WordMakes.j0 k l0 a1 s false) ?_ (fun k => by rw [tipstafflaw33_WordMakes.f, if_neg h1, decide_eq_false h2])
  refine Ev.step (g' := fun k => (word_Make.f k l0 a1).bind fun bt433 => ((tipstaffref33_Make.f k l0 a1).bind fun bt435 => ((tipstaffref33_Parse.f k s).bind fun bt440 => (if bt433.1 = bt435.1 then (if bt433.2 = bt435.2 then (if (parseV s).1 = bt440.1 then (if (parseV s).2.1 = bt440.2.1 then (if (parseV s).2.2 = bt440.2.2 then ((tipstafflaw33_awake.f k).bind fun t443 => (some t443)) else (none)) else (none)) else (none)) else (none)) else (none))))) ?_ (fun k => by
    rw [tipstafflaw33_WordMakes.j0, if_neg (by decide)]; simp only [parse_val, Option.bind_some])
  refine (make_val l0 a1 (by omega)).bind (f := fun bt433 k => ((tipstaffref33_Make.f k l0 a1).bind fun bt435 => ((tipstaffref33_Parse.f k s).bind fun bt440 => (if bt433.1 = bt435.1 then (if bt433.2 = bt435.2 then (if (parseV s).1 = bt440.1 then (if (parseV s).2.1 = bt440.2.1 then (if (parseV s).2.2 = bt440.2.2 then ((tipstafflaw33_awake.f k).bind fun t443 => (some t443)) else (none)) else (none)) else (none)) else (none)) else (none))))) ?_
  refine (rmake_val l0 a1 (by omega)).bind (f := fun bt435 k => ((tipstaffref33_Parse.f k s).bind fun bt440 => (if (makeT l0 a1).1 = bt435.1 then (if (makeT l0 a1).2 = bt435.2 then (if (parseV s).1 = bt440.1 then (if (parseV s).2.1 = bt440.2.1 then (if (parseV s).2.2 = bt440.2.2 then ((tipstafflaw33_awake.f k).bind fun t443 => (some t443)) else (none)) else (none)) else (none)) else (none)) else (none)))) ?_
  refine (rparse_val s).bind (f := fun bt440 k => (if (makeT l0 a1).1 = (makeT l0 a1).1 then (if (makeT l0 a1).2 = (makeT l0 a1).2 then (if (parseV s).1 = bt440.1 then (if (parseV s).2.1 = bt440.2.1 then (if (parseV s).2.2 = bt440.2.2 then ((tipstafflaw33_awake.f k).bind fun t443 => (some t443)) else (none)) else (none)) else (none)) else (none)) else (none))) ?_
  exact aw.congr (fun k => by simp only [if_true])

end Go.Proofs.YtbcmlgbhejcjbaaDoor.Pure
