/- The chapter's examples, and what the statements' own functions come to. -/
import Derived.Test.YtbcmlgbhejcjbaaDoorS3
import Derived.Test.YtbcmlgbhejcjbaaDoorS2
import Derived.Test.YtbcmlgbhejcjbaaDoorS6
import Derived.Test.YtbcmlgbhejcjbaaDoorEv
import Derived.Test.YtbcmlgbhejcjbaaDoorHword
import Derived.Test.YtbcmlgbhejcjbaaDoorHwrong
namespace Go.Proofs.YtbcmlgbhejcjbaaDoor.Pure
open Go.RowKit Go.Proofs.YtbcmlgbhejcjbaaDoor.S Go.Proofs.YtbcmlgbhejcjbaaDoorW.PrintWords Go.Proofs.YtbcmlgbhejcjbaaDoorW.PrintLast
set_option linter.unusedVariables false
set_option linter.unusedSimpArgs false

theorem awake_ev : Ev (fun k => tipstafflaw33_awake.f k) true := Ev.mono_at 60 (by decide +kernel) (fun k => tipstafflaw33_awake.mono k)
theorem ints_loop (a : List Int) (hm : a.length ≤ 1000000) : ∀ (d i : Nat), i + d = a.length → Ev (fun k => tipstaffkit_SameInts.l0 k a a (i : Int)) true := by
  intro d
  induction d with
  | zero =>
    intro i hi
    refine (Ev.const _).step (fun k => ?_)
    rw [tipstaffkit_SameInts.l0, if_neg (by omega)]
  | succ d ih =>
    intro i hi
    refine (ih (i + 1) (by omega)).step (fun k => ?_)
    rw [tipstaffkit_SameInts.l0, if_pos (by omega), if_pos (by omega), if_pos (by omega), if_pos rfl, wrap_succ i (by omega)]
theorem ints_self (a : List Int) (hm : a.length ≤ 1000000) : Ev (fun k => tipstaffkit_SameInts.f k a a) true := by
  refine (ints_loop a hm _ 0 (Nat.zero_add _)).congr (fun k => ?_)
  rw [tipstaffkit_SameInts.f, if_pos rfl]; rfl
theorem ents_loop (a : List S38) (hm : a.length ≤ 1000000) : ∀ (d i : Nat), i + d = a.length → Ev (fun k => tipstafflaw33_sameEntries.l0 k a a (i : Int)) true := by
  intro d
  induction d with
  | zero =>
    intro i hi
    refine (Ev.const _).step (fun k => ?_)
    rw [tipstafflaw33_sameEntries.l0, if_neg (by omega)]
  | succ d ih =>
    intro i hi
    refine (ih (i + 1) (by omega)).step (fun k => ?_)
    rw [tipstafflaw33_sameEntries.l0, if_pos (by omega), if_pos (by omega), if_pos (by omega), if_neg (by simp), wrap_succ i (by omega)]
theorem ents_self (a : List S38) (hm : a.length ≤ 1000000) : Ev (fun k => tipstafflaw33_sameEntries.f k a a) true := by
  refine (ents_loop a hm _ 0 (Nat.zero_add _)).congr (fun k => ?_)
  rw [tipstafflaw33_sameEntries.f, if_pos rfl]; rfl
theorem own_val (l : List Int) (hl : l.length ≤ 1000000) : tipstaffkit_OwnInts.f l = some l := by
  rw [tipstaffkit_OwnInts.f, Option.bind_some, if_pos (by simp; omega), List.nil_append]
theorem ownE_val (l : List S38) (hl : l.length ≤ 1000000) : tipstafflaw33_ownEntries.f l = some l := by
  rw [tipstafflaw33_ownEntries.f, Option.bind_some, if_pos (by simp; omega), List.nil_append]
theorem light_loop (a : List S38) (hm : a.length ≤ 1000000) : ∀ (d i : Nat), i + d = a.length → ∃ b, Ev (fun k => tipstafflaw33_light.l0 k a (i : Int)) b := by
  intro d
  induction d with
  | zero =>
    intro i hi
    refine ⟨true, (Ev.const _).step (fun k => ?_)⟩
    rw [tipstafflaw33_light.l0, if_neg (by omega)]
  | succ d ih =>
    intro i hi
    by_cases h : (((rd_T38 a (i : Int)).f3).size : Int) > 100
    · refine ⟨false, (Ev.const _).step (fun k => ?_)⟩
      rw [tipstafflaw33_light.l0, if_pos (by omega), if_pos (by omega), if_pos h]
    · obtain ⟨b, hb⟩ := ih (i + 1) (by omega)
      refine ⟨b, hb.step (fun k => ?_)⟩
      rw [tipstafflaw33_light.l0, if_pos (by omega), if_pos (by omega), if_neg h, wrap_succ i (by omega)]
theorem light_val (l0 : List Int) (l1 : List S38) : ∃ b, Ev (fun k => tipstafflaw33_light.f k l0 l1) b ∧ (b = true → l0.length ≤ 12 ∧ l1.length ≤ 2010) := by
  have no : Ev (fun k => tipstafflaw33_light.j0 k l1 true) false := by
    refine (Ev.const _).step (fun k => ?_)
    rw [tipstafflaw33_light.j0, if_pos rfl]
  by_cases h1 : (l0.length : Int) > 12
  · exact ⟨false, no.congr (fun k => by rw [tipstafflaw33_light.f, if_pos h1]), fun h => by cases h⟩
  have rest : ∀ b : Bool, (b = false → l1.length ≤ 2010) → ∃ c, Ev (fun k => tipstafflaw33_light.j0 k l1 b) c ∧ (c = true → l0.length ≤ 12 ∧ l1.length ≤ 2010) := by
    intro b hb
    cases b with
    | true => exact ⟨false, no, fun h => by cases h⟩
    | false =>
      have hl := hb rfl
      obtain ⟨c, hc⟩ := light_loop l1 (by omega) _ 0 (Nat.zero_add _)
      refine ⟨c, hc.step (fun k => ?_), fun _ => ⟨by omega, hl⟩⟩
      rw [tipstafflaw33_light.j0, if_neg (by decide)]; rfl
  by_cases h2 : (l1.length : Int) > 60
  · by_cases h3 : (l1.length : Int) ≤ 2000
    · exact ⟨false, no.congr (fun k => by rw [tipstafflaw33_light.f, if_neg h1, if_pos h2, if_pos h3]), fun h => by cases h⟩
    · obtain ⟨c, hc, hq⟩ := rest (decide ((l1.length : Int) > 2010)) (fun h => by have := of_decide_eq_false h; omega)
      exact ⟨c, hc.congr (fun k => by rw [tipstafflaw33_light.f, if_neg h1, if_pos h2, if_neg h3]), hq⟩
  · obtain ⟨c, hc, hq⟩ := rest (decide ((l1.length : Int) > 2010)) (fun h => by have := of_decide_eq_false h; omega)
    exact ⟨c, hc.congr (fun k => by rw [tipstafflaw33_light.f, if_neg h1, if_neg h2]), hq⟩

end Go.Proofs.YtbcmlgbhejcjbaaDoor.Pure
