/- A motion that turns to the nearest position comes to rest there, and after Speed - 1 ticks, one that turns to its goal is not changed, and one that is stopped stays: for motions made of any numbers. -/
import Derived.Test.YtocbjclflabmcaaS20
import Derived.Test.YtocbjclflabmcaaMo4
import Derived.Test.YtocbjclflabmcaaMoM
import Derived.Test.YtocbjclflabmcaaMoK
namespace Go.Proofs.Ytocbjclflabmcaa.Pure
open Go.RowKit Go.Proofs.Ytocbjclflabmcaa.S Go.Proofs.YtocbjclflabmcaaW.PrintWords Go.Proofs.YtocbjclflabmcaaW.PrintLast
set_option linter.unusedVariables false
set_option linter.unusedSimpArgs false

theorem near_ok {p g s m : Int} (h : Ok p g s m) : Ok p (nearV p g s) (if nearV p g s = p then 0 else s) m := by
  obtain ⟨n0, n1, n2, n3⟩ := near_bounds h
  refine ⟨h.p0, h.p1, n0, n1, h.m0, h.m1, by have := h.s0; split <;> omega, by have := h.s0; have := h.s1; split <;> omega, fun hs => ?_⟩
  by_cases e : nearV p g s = p
  · rw [if_pos e] at hs; omega
  · rw [if_neg e] at hs ⊢
    rw [if_neg (by omega)] at n2
    exact ⟨fun e2 => e e2.symm, by omega⟩

theorem stops_val {p g s m : Int} (h : Ok p g s m) (k : Nat) (hk : 63000 < k) :
    motion_Turn.f p g s m (nearV p g s) = some (p, nearV p g s, if nearV p g s = p then 0 else s, m, 0) ∧
    motion_Left.f k p (nearV p g s) (if nearV p g s = p then 0 else s) m = some (mx 0 (wrap64 (s - 1)), 0) ∧
    (∃ r, motion_Run.f p (nearV p g s) (if nearV p g s = p then 0 else s) m 30 = some (nearV p g s, nearV p g s, r, m, 0) ∧ r = 0) ∧
    motion_Turn.f p g s m g = some (p, g, s, m, 0) ∧
    motion_Step.f p p 0 m = some (p, p, 0, m, 0) := by
  obtain ⟨n0, n1, n2, n3⟩ := near_bounds h
  have hs0 := h.s0
  have hs1 := h.s1
  have hm1 := h.m1
  have ho := near_ok h
  have hlen : (posX p (nearV p g s) (if nearV p g s = p then 0 else s) m).length = (s - 1).toNat := by
    refine brake (s - 1).toNat p _ ho ?_ ?_
    · rw [n2]
      by_cases c : s = 0
      · subst c; rfl
      · rw [if_neg c]; congr 1; omega
    · by_cases c : s ≤ 1
      · left; omega
      · right
        have h3 := tT_lt (show 0 < s - 1 by omega) (by omega)
        rw [tT_zero] at h3
        rw [if_neg (by omega)] at n2
        rw [if_neg (fun e => by have := dist_zero.2 e.symm; omega)]
        omega
  have hok2 : Ok p p 0 m := ⟨h.p0, h.p1, h.p0, h.p1, h.m0, h.m1, by omega, by have := h.m0; omega, fun e => absurd e (by omega)⟩
  refine ⟨turn_val h _ n0 n1 (fun _ => by rw [Int.sub_self, Int.mul_zero]; omega), ?_, ?_, ?_, ?_⟩
  · rw [left_val ho k hk, hlen]
    congr 2
    rw [wrap_id _ (by omega) (by omega)]
    unfold mx; split <;> omega
  · have he := run_end p _ ho 30 (by omega)
    rw [run_val ho 30 (by omega) (by omega)]
    refine ⟨_, by rw [show (30 : Int).toNat = 30 from rfl, he.1], ?_⟩
    by_cases c : p = nearV p g s
    · have := runN_still 30 ho c
      rw [this, if_pos c.symm]
    · exact he.2 c
  · rw [turn_val h g h.g0 h.g1 (fun e => by rw [n3 e]; have := (h.st e).2; omega)]
    by_cases c : g = p
    · have : s = 0 := by
        rcases Int.lt_or_le 0 s with e | e
        · exact absurd c.symm (h.st e).1
        · omega
      rw [if_pos c, this]
    · rw [if_neg c]
  · rw [step_val hok2, tick_still hok2 rfl]

theorem MotionStops : tipstafflaw09_MotionStops.Pure := by
  intro a0 a1 a2 a3 w0 w1 w2 w3
  obtain ⟨K, hK⟩ := known_ev
  obtain ⟨ho, hm⟩ := made_val a0 a1 a2 a3 (i64_of w0) (i64_of w1) (i64_of w2) (i64_of w3)
  have hr := runN_ok (a3 % 60).toNat ho
  obtain ⟨p, hp⟩ : ∃ p, (S.runN (a3 % 60).toNat (a0 % 300) (a1 % 300) 0 (1 + a2 % 20)).1 = p := ⟨_, rfl⟩
  obtain ⟨s, hs⟩ : ∃ s, (S.runN (a3 % 60).toNat (a0 % 300) (a1 % 300) 0 (1 + a2 % 20)).2 = s := ⟨_, rfl⟩
  rw [hp, hs] at hm hr
  obtain ⟨L, hL⟩ : ∃ L : Nat, L = K + 63001 := ⟨_, rfl⟩
  obtain ⟨h1, h2, ⟨r, h3, rfl⟩, h4, h5⟩ := stops_val hr L (by omega)
  refine ⟨L, ?_⟩
  unfold tipstafflaw09_MotionStops.f
  rw [hK _ (by omega), Option.bind_some, hm, Option.bind_some]
  simp only
  rw [nearest_val hr, Option.bind_some]
  simp only
  rw [h1, Option.bind_some]
  simp only
  rw [h2, Option.bind_some, h3, Option.bind_some, h4, Option.bind_some, stop_val hr, Option.bind_some]
  simp only
  rw [h5, Option.bind_some]
  simp

end Go.Proofs.Ytocbjclflabmcaa.Pure
