/- The chapter's examples, and what the statements' own functions come to. -/
import Derived.Test.YtlpdoieokgeikaaS5
import Derived.Test.YtlpdoieokgeikaaS3
import Derived.Test.YtlpdoieokgeikaaS7
import Derived.Test.YtlpdoieokgeikaaS4
import Derived.Test.YtlpdoieokgeikaaEv
import Derived.Test.YtlpdoieokgeikaaLim1
namespace Go.Proofs.Ytlpdoieokgeikaa.Pure
open Go.RowKit Go.Proofs.Ytlpdoieokgeikaa.S Go.Proofs.YtlpdoieokgeikaaW.PrintWords Go.Proofs.YtlpdoieokgeikaaW.PrintLast
set_option linter.unusedVariables false
set_option linter.unusedSimpArgs false

theorem awake_ev : Ev (fun k => tipstafflaw14_awake.f k) true := Ev.mono_at 60 (by decide +kernel) (fun k => tipstafflaw14_awake.mono k)
theorem ints_loop (a : List Int) (hm : a.length ≤ 1000000) : ∀ (d i : Nat), i + d = a.length → Ev (fun k => tipstaffkit_SameInts.l0 k a a (i : Int)) true := by
  intro d
  induction d with
  | zero =>
    intro i hi
    refine (Ev.const _).step (fun k => ?_)
    rw [tipstaffkit_SameInts.l0, if_neg (by omega)]
  | succ d ih =>
    intro i hi
    refine (ih (i + 1) (by omega)).step (fun k => ?_)
    rw [tipstaffkit_SameInts.l0, if_pos (by omega), if_pos (by omega), if_pos (by omega), if_pos rfl, wrap_succ i (by omega)]
theorem ints_self (a : List Int) (hm : a.length ≤ 1000000) : Ev (fun k => tipstaffkit_SameInts.f k a a) true := by
  refine (ints_loop a hm _ 0 (Nat.zero_add _)).congr (fun k => ?_)
  rw [tipstaffkit_SameInts.f, if_pos rfl]; rfl
theorem ticks_loop (a : List S38) (hm : a.length ≤ 1000000) : ∀ (d i : Nat), i + d = a.length → Ev (fun k => tipstafflaw14_same.l0 k a a (i : Int)) true := by
  intro d
  induction d with
  | zero =>
    intro i hi
    refine (Ev.const _).step (fun k => ?_)
    rw [tipstafflaw14_same.l0, if_neg (by omega)]
  | succ d ih =>
    intro i hi
    refine (ih (i + 1) (by omega)).step (fun k => ?_)
    rw [tipstafflaw14_same.l0, if_pos (by omega), if_pos (by omega), if_pos (by omega), if_neg (by simp), wrap_succ i (by omega)]
theorem ticks_self (a : List S38) (hm : a.length ≤ 1000000) : Ev (fun k => tipstafflaw14_same.f k a a) true := by
  refine (ticks_loop a hm _ 0 (Nat.zero_add _)).congr (fun k => ?_)
  rw [tipstafflaw14_same.f, if_pos rfl]; rfl
theorem own_val (l : List S38) (hl : l.length ≤ 1000000) : tipstafflaw14_own.f l = some l := by
  rw [tipstafflaw14_own.f, Option.bind_some, if_pos (by simp; omega), List.nil_append]
theorem light_val (l : List S38) : ∃ b, tipstafflaw14_light.f l = some b ∧ (b = true → l.length ≤ 10010) := by
  rw [tipstafflaw14_light.f]
  by_cases h1 : (l.length : Int) ≤ 200
  · rw [if_pos h1]; exact ⟨_, rfl, fun _ => by omega⟩
  rw [if_neg h1]
  by_cases h2 : (l.length : Int) ≥ 9990
  · rw [if_pos h2]; exact ⟨_, rfl, fun h => by have := of_decide_eq_true h; omega⟩
  · rw [if_neg h2]; exact ⟨_, rfl, fun h => by simp at h⟩

end Go.Proofs.Ytlpdoieokgeikaa.Pure
