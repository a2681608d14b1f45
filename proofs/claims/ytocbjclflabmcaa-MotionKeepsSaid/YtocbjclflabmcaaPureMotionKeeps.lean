/- A motion stays valid, moves towards its goal and never beyond it, changes its speed by at most 1 but for its last tick, and its ticks left fall by 1: for motions made of any numbers. -/
import Derived.Test.YtocbjclflabmcaaS17
import Derived.Test.YtocbjclflabmcaaMo
import Derived.Test.YtocbjclflabmcaaMoM
import Derived.Test.YtocbjclflabmcaaMoK
namespace Go.Proofs.Ytocbjclflabmcaa.Pure
open Go.RowKit Go.Proofs.Ytocbjclflabmcaa.S Go.Proofs.YtocbjclflabmcaaW.PrintWords Go.Proofs.YtocbjclflabmcaaW.PrintLast
set_option linter.unusedVariables false
set_option linter.unusedSimpArgs false

theorem keeps_loop {g m : Int} : ∀ p s, Ok p g s m → ∀ (k i : Nat), 63004 + 3 * (posX p g s m).length ≤ k → i + (posX p g s m).length < 400 → tipstafflaw09_MotionKeeps.l0 k true true (i : Int) p g s m = some true := by
  refine along ?_ ?_
  · intro p s h he k i hk hi
    rw [posX_nil h he] at hk hi
    simp only [List.length_nil] at hk hi
    obtain ⟨k, rfl⟩ : ∃ j, k = j + 1 + 1 + 1 := ⟨k - 3, by omega⟩
    rw [tipstafflaw09_MotionKeeps.l0, if_pos rfl, decide_eq_true (show (i : Int) < 400 by omega), tipstafflaw09_MotionKeeps.j1, if_pos rfl, left_val h _ (by omega), Option.bind_some, step_val h, Option.bind_some, tick_still h he]
    simp only
    rw [if_pos trivial, if_pos trivial, check_val, ok_chk h, Option.bind_some, if_pos rfl, if_pos trivial, tipstafflaw09_MotionKeeps.j2, if_neg (by simp), if_pos he, if_pos rfl, posX_nil h he]
    simp
  · intro p s p' s' v h hne t ih k i hk hi
    rw [posX_cons h hne t, List.length_cons] at hk hi
    obtain ⟨k, rfl⟩ : ∃ j, k = j + 1 + 1 + 1 := ⟨k - 3, by omega⟩
    rw [tipstafflaw09_MotionKeeps.l0, if_pos rfl, decide_eq_true (show (i : Int) < 400 by omega), tipstafflaw09_MotionKeeps.j1, if_pos rfl, left_val h _ (by omega), Option.bind_some, step_val h, Option.bind_some, t.ev]
    simp only
    have o := t.ok
    have hlen := (posX_spec o).2
    rw [if_pos trivial, if_pos trivial, check_val, ok_chk o, Option.bind_some, if_pos rfl, if_pos trivial, tipstafflaw09_MotionKeeps.j2, if_neg (by simp), if_neg hne, left_val o _ (by omega), Option.bind_some, far_val p p' h.p0 h.p1 o.p0 o.p1, Option.bind_some]
    simp only
    have hd1 : dist p p' = v := by
      have hp := t.hp
      have v1 := t.v1
      rcases way_cases p g with ⟨_, e⟩ | ⟨_, e⟩ <;> rw [e] at hp <;> unfold dist <;> split <;> omega
    have hd := t.hd
    have v1 := t.v1
    have vm := t.vm
    have hm1 := h.m1
    have hs0 := h.s0
    have hs1 := h.s1
    have hn := t.near
    have hle := dist_le h
    have hnn := dist_nonneg p' g
    have hnn2 := dist_nonneg p g
    rw [if_pos trivial, posX_cons h hne t, List.length_cons, if_pos (by rw [wrap_id _ (by omega) (by omega)]; omega), far_val p' g o.p0 o.p1 o.g0 o.g1, Option.bind_some, far_val p g h.p0 h.p1 h.g0 h.g1, Option.bind_some, hd1, if_pos (by rw [wrap_id _ (by omega) (by omega)]; omega), if_neg (by omega), if_neg (by omega), far_val v s (by omega) (by omega) (by omega) (by omega), Option.bind_some, if_neg (show ¬ dist v s > 1 by unfold dist; split <;> omega)]
    have hl := ih k (i + 1) (by omega) (by omega)
    rw [wrap_succ i (by omega)]
    by_cases e : p' = g
    · rw [if_pos e, if_pos (by rw [t.hs, if_pos e]), hl]
    · rw [if_neg e, if_pos (by rw [t.hs, if_neg e]), hl]

theorem pos_len {g m : Int} : ∀ p s, Ok p g s m → ((posX p g s m).length : Int) ≤ dist p g := by
  refine along ?_ ?_
  · intro p s h he
    rw [posX_nil h he]; exact dist_nonneg p g
  · intro p s p' s' v h hne t ih
    rw [posX_cons h hne t, List.length_cons]
    have := t.hd; have := t.v1; omega

theorem MotionKeeps : tipstafflaw09_MotionKeeps.Pure := by
  intro a0 a1 a2 a3 w0 w1 w2 w3
  obtain ⟨K, hK⟩ := known_ev
  obtain ⟨ho, hm⟩ := made_val a0 a1 a2 a3 (i64_of w0) (i64_of w1) (i64_of w2) (i64_of w3)
  have hr := runN_ok (a3 % 60).toNat ho
  have hb := run_between (a3 % 60).toNat ho
  have hl := pos_len _ _ hr
  have hd : dist (S.runN (a3 % 60).toNat (a0 % 300) (a1 % 300) 0 (1 + a2 % 20)).1 (a1 % 300) < 300 := by unfold dist; split <;> omega
  refine ⟨K + 70000, ?_⟩
  unfold tipstafflaw09_MotionKeeps.f
  rw [hK _ (by omega), Option.bind_some, hm, Option.bind_some]
  simp only
  exact keeps_loop _ _ hr _ 0 (by omega) (by omega)

end Go.Proofs.Ytocbjclflabmcaa.Pure
