/- profile.next, walked: the first of three speeds that may be, or the last with 'false'. -/
import Derived.Outline
import Derived.Test.YtgjcpocncpeibaaS1
namespace Go.Proofs.Ytgjcpocncpeibaa.S
open Go.RowKit Go.Proofs.YtgjcpocncpeibaaW.PrintWords Go.Proofs.YtgjcpocncpeibaaW.PrintLast Go.Proofs.YtgjcpocncpeibaaW.PrintMore
set_option linter.unusedVariables false
set_option linter.unusedSimpArgs false

/-- May this speed be? -/
def may (v left limit : Int) : Bool := decide (0 ≤ v) && (decide (v ≤ limit) && decide (wrap64 (Int.tdiv (wrap64 (v * (wrap64 (v + 1)))) 2) ≤ left))
def profile_next.v (speed left limit : Int) : Int × Bool :=
  if may (wrap64 (speed + 1)) left limit = true then (wrap64 (speed + 1), true) else if may speed left limit = true then (speed, true) else if may (wrap64 (speed - 1)) left limit = true then (wrap64 (speed - 1), true) else (wrap64 (speed - 1), false)
def profile_next.f (a0 a1 a2 : Int) : Option (Int × Bool) := some (profile_next.v a0 a1 a2)

theorem may_f1 {v l m : Int} (h : ¬ 0 ≤ v) : may v l m = false := by simp [may, h]
theorem may_f2 {v l m : Int} (h : ¬ v ≤ m) : may v l m = false := by simp [may, h]
theorem may_f3 {v l m : Int} (h : l < wrap64 (Int.tdiv (wrap64 (v * (wrap64 (v + 1)))) 2)) : may v l m = false := by
  have : ¬ wrap64 (Int.tdiv (wrap64 (v * (wrap64 (v + 1)))) 2) ≤ l := by omega
  simp [may, this]
theorem may_t {v l m : Int} (h1 : 0 ≤ v) (h2 : v ≤ m) (h3 : wrap64 (Int.tdiv (wrap64 (v * (wrap64 (v + 1)))) 2) ≤ l) : may v l m = true := by simp [may, h1, h2, h3]

/-- The loop's rounds: so many speeds may not be; c is the last one. -/
inductive Rnd (a0 a1 a2 : Int) : Nat → Int → Prop
  | r0 : Rnd a0 a1 a2 0 0
  | r1 : may (wrap64 (a0 + 1)) a1 a2 = false → Rnd a0 a1 a2 1 (wrap64 (a0 + 1))
  | r2 : may (wrap64 (a0 + 1)) a1 a2 = false → may a0 a1 a2 = false → Rnd a0 a1 a2 2 a0
  | r3 : may (wrap64 (a0 + 1)) a1 a2 = false → may a0 a1 a2 = false → may (wrap64 (a0 - 1)) a1 a2 = false → Rnd a0 a1 a2 3 (wrap64 (a0 - 1))

theorem tri_any (v : Int) (w : World) : Calls Try.prog 32 #[.int .i64 v] w fun e w' => e = .returned (.int .i64 (wrap64 (Int.tdiv (wrap64 (v * (wrap64 (v + 1)))) 2))) ∧ Drawn0 w w' := profile_tri.calls v _ w rfl

set_option maxHeartbeats 1000000 in
set_option maxRecDepth 100000 in
theorem profile_next.calls (a0 : Int) (a1 : Int) (a2 : Int) (r1 : Int) (r2 : Bool) (w : World) (h : profile_next.f a0 a1 a2 = some (r1, r2)) :
    Calls Try.prog 34 #[.int .i64 a0, .int .i64 a1, .int .i64 a2] w fun e w' => e = .returned (.tuple #[.int .i64 r1, .bool r2]) ∧ Drawn0 w w' := by
  have h0 : profile_next.v a0 a1 a2 = (r1, r2) := Option.some.inj h
  have H := Aside0.mk h0
  clear h h0
  have i0 : ∀ (x y z : Value) (w : World), (Instr.index 50 (.agg #[x, y, z]) (.int .i64 0)).run Try.prog w = .ok x w := fun _ _ _ _ => by kernel_rfl
  have i1 : ∀ (x y z : Value) (w : World), (Instr.index 50 (.agg #[x, y, z]) (.int .i64 1)).run Try.prog w = .ok y w := fun _ _ _ _ => by kernel_rfl
  have i2 : ∀ (x y z : Value) (w : World), (Instr.index 50 (.agg #[x, y, z]) (.int .i64 2)).run Try.prog w = .ok z w := fun _ _ _ _ => by kernel_rfl
  go_enter Try.func34, Try.ntmps34
  go_wp2
  go_step3
  go_wp2
  go_step3
  go_wp2
  go_loopw [6, 7, 14] (fun v6 v7 v14 wr => ∃ (k m : Nat) (c : Int), Rnd a0 a1 a2 k c ∧ v14 = .int .i64 k ∧ v7 = .bool false ∧ v6 = .int .i64 c ∧ wr = w.drewN m) (fun _ _ v14 _ => 3 - (intOf v14).toNat)
  case atStart => exact ⟨0, 0, 0, .r0, rfl, rfl, rfl, rfl⟩
  case round =>
    obtain ⟨k, m, c, hR, rfl, rfl, rfl, rfl⟩ := hrel
    cases hR with
    | r0 =>
      go_wp2_with (go_at_call 32; refine (tri_any _ _).mono ?_; rintro e w' ⟨rfl, n, rfl⟩)
      all_goals first
        | exact ⟨⟨1, _, _, .r1 (by first | exact may_f1 ‹_› | exact may_f2 ‹_› | exact may_f3 ‹_›), rfl, rfl, rfl, rfl⟩, by simp [intOf]⟩
        | (have e1 : may (wrap64 (a0 + 1)) a1 a2 = true := may_t ‹_› ‹_› ‹_›
           have e2 : profile_next.v a0 a1 a2 = ((wrap64 (a0 + 1)), true) := by unfold profile_next.v; simp only [e1, if_true, if_false, Bool.false_eq_true]
           have e3 := H.out
           rw [e2] at e3
           obtain ⟨rfl, rfl⟩ := Prod.mk.inj e3
           rw [Exit.noGoto_ret]
           go_ret2
           exact ⟨rfl, _, rfl⟩)
    | r1 h1 =>
      go_wp2_with (go_at_call 32; refine (tri_any _ _).mono ?_; rintro e w' ⟨rfl, n, rfl⟩)
      all_goals first
        | exact ⟨⟨2, _, _, .r2 h1 (by first | exact may_f1 ‹_› | exact may_f2 ‹_› | exact may_f3 ‹_›), rfl, rfl, rfl, rfl⟩, by simp [intOf]⟩
        | (have e1 : may a0 a1 a2 = true := may_t ‹_› ‹_› ‹_›
           have e2 : profile_next.v a0 a1 a2 = (a0, true) := by unfold profile_next.v; simp only [h1, e1, if_true, if_false, Bool.false_eq_true]
           have e3 := H.out
           rw [e2] at e3
           obtain ⟨rfl, rfl⟩ := Prod.mk.inj e3
           rw [Exit.noGoto_ret]
           go_ret2
           exact ⟨rfl, _, rfl⟩)
    | r2 h1 h2 =>
      go_wp2_with (go_at_call 32; refine (tri_any _ _).mono ?_; rintro e w' ⟨rfl, n, rfl⟩)
      all_goals first
        | exact ⟨⟨3, _, _, .r3 h1 h2 (by first | exact may_f1 ‹_› | exact may_f2 ‹_› | exact may_f3 ‹_›), rfl, rfl, rfl, rfl⟩, by simp [intOf]⟩
        | (have e1 : may (wrap64 (a0 - 1)) a1 a2 = true := may_t ‹_› ‹_› ‹_›
           have e2 : profile_next.v a0 a1 a2 = ((wrap64 (a0 - 1)), true) := by unfold profile_next.v; simp only [h1, h2, e1, if_true, if_false, Bool.false_eq_true]
           have e3 := H.out
           rw [e2] at e3
           obtain ⟨rfl, rfl⟩ := Prod.mk.inj e3
           rw [Exit.noGoto_ret]
           go_ret2
           exact ⟨rfl, _, rfl⟩)
    | r3 h1 h2 h3 =>
      go_wp2
      have e2 : profile_next.v a0 a1 a2 = (wrap64 (a0 - 1), false) := by unfold profile_next.v; simp only [h1, h2, h3, if_false, Bool.false_eq_true]
      have e3 := H.out
      rw [e2] at e3
      obtain ⟨rfl, rfl⟩ := Prod.mk.inj e3
      rw [Exit.noGoto_ret]
      go_ret2
      exact ⟨rfl, _, rfl⟩

theorem next_any (a b c : Int) (w : World) : Calls Try.prog 34 #[.int .i64 a, .int .i64 b, .int .i64 c] w fun e w' => e = .returned (.tuple #[.int .i64 (profile_next.v a b c).1, .bool (profile_next.v a b c).2]) ∧ Drawn0 w w' :=
  profile_next.calls a b c _ _ w rfl

end Go.Proofs.Ytgjcpocncpeibaa.S
