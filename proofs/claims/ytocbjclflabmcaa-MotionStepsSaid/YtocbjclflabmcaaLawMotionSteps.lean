/- The row of MotionSteps: for every input the call returns true and leaves what it was given as it was. -/
import Derived.Test.YtocbjclflabmcaaRows
import Derived.Test.YtocbjclflabmcaaPureMotionSteps
import Derived.Test.YtocbjclflabmcaaAskMotionSteps
import Derived.WalkKit
import Derived.ProofKit
import Derived.OpenShut
import Derived.ShutString
import Derived.ChangeOld
import Derived.Below
import Derived.SizedLaws
import Derived.Carry
import Derived.Test.YtocbjclflabmcaaWSized
namespace Go.Proofs.Ytocbjclflabmcaa.motionSteps
open Go.ChangeShapes Go.WideShapes Go.ChangeAt Go.RowKit Go.Proofs.YtocbjclflabmcaaW.PrintWords Go.Proofs.Ytocbjclflabmcaa.Pure Go.Proofs.Ytocbjclflabmcaa.S
open Go.ChangeMaps (open_string shut_string)
set_option linter.unusedVariables false
theorem own : ownKnob Try.prog.godebug = none := by kernel_rfl
theorem laidOut : laidOutB Try.prog = true := by kernel_rfl
set_option maxRecDepth 100000 in
theorem lifted (os : Os) (started : os.Started) (H : Type) (enc : TypeId × Value → H) :
    ReturnsInHanded {} Try.checked os 3 .any (Rows.motionStepsSpec.pre6 enc Try.prog Try.f3 Rows.motionStepsRow.domain false) (Rows.motionStepsSpec.post enc Try.prog Try.f3 false true false false) := by
  refine returnsInHanded_of_change_sized (C := Try.checked) own started (by kernel_rfl) Try.func3
    (ChangeSpec.witness6 (enc := enc) (C := Try.checked) false ⟨#[], #[.agg #[.int .i64 0, .int .i64 0, .int .i64 0, .int .i64 0], .int .i64 0, .int .i64 0], []⟩ 8 (by kernel_rfl) (by kernel_rfl) (by kernel_rfl) (by kernel_rfl)) ?_
  intro W base args ds gs before hval0 hW hcnd hsz0 _
  have hsz : (DataW.weightsEach Try.prog (Try.f3.params.toList ++ Rows.motionStepsSpec.plain.varTypes Try.prog) (ds ++ gs)).all (· ≤ reachBytes) = true := hsz0
  have hval : ∀ (j : Nat) t v, Try.f3.params[j]? = some t → args[j]? = some v → Value.okWide Try.prog W .any base t v := hval0
  have hW' := hW
  obtain ⟨p, q, hA0, hV, rfl, hfz, hnd⟩ := hW
  have hA : DataW.TrodAll enc Try.prog W 0 (fun _ => true) true Try.f3.params.toList args.toList ds p := hA0
  rw [Try.params3] at hA hval hsz
  obtain ⟨v0, vs0, d0, ds0, p0, q0, hargs, rfl, rfl, h0, r0⟩ := trodAll_cons hA
  obtain ⟨v1, vs1, d1, ds1, p1, q1, rfl, rfl, rfl, h1, r1⟩ := trodAll_cons r0
  obtain ⟨v2, vs2, d2, ds2, p2, q2, rfl, rfl, rfl, h2, r2⟩ := trodAll_cons r1
  obtain ⟨rfl, rfl, rfl⟩ := trodAll_nil r2
  obtain rfl : args = #[v0, v1, v2] := by cases args; simp_all
  obtain ⟨rfl, rfl⟩ := trodVars_none hV
  have k0 := h0
  have lt0 : ∀ x ∈ p0, x.block < W.heap.size := by obtain ⟨m, hm⟩ := k0; exact DataW.trod_lt m _ _ _ hm
  obtain ⟨cs0, rfl, hs0⟩ := okWide_struct Try.underlying23 (hval 0 23 v0 rfl rfl)
  obtain ⟨b0, K0, w0⟩ : ∃ b : (Int) × (Int) × (Int) × (Int), (Kd.pair (Kd.int .i64) (Kd.pair (Kd.int .i64) (Kd.pair (Kd.int .i64) (Kd.int .i64)))).K W b cs0.toList ∧ wf23 b := by
    obtain ⟨fuel, hf⟩ := h0
    have hf' : DataW.trod enc Try.prog W 0 (fun _ => true) true fuel 23 cs0.toList = some (d0, p0) := hf
    exact opens23 hf'
  obtain ⟨a0_0, a0_1, a0_2, a0_3⟩ := b0
  obtain ⟨cs0⟩ := cs0
  have E0 : cs0 = [.int .i64 a0_0, .int .i64 a0_1, .int .i64 a0_2, .int .i64 a0_3] := by
    obtain ⟨c0_0, u0_0, hS0_0, hE0_0, ⟨c0_1, u0_1, hS0_1, hE0_1, ⟨c0_2, u0_2, hS0_2, hE0_2, hE0_3⟩⟩⟩ := K0
    have hE : ∀ j, j < 1 → True := fun _ _ => trivial
    have hF0 : c0_0 = [.int .i64 a0_0] := hE0_0
    have hF1 : c0_1 = [.int .i64 a0_1] := hE0_1
    have hF2 : c0_2 = [.int .i64 a0_2] := hE0_2
    have hF3 : u0_2 = [.int .i64 a0_3] := hE0_3
    have hZ : cs0 = c0_0 ++ u0_0 := hS0_0
    rw [hZ, hF0, hS0_1, hF1, hS0_2, hF2, hF3]
    rfl
  subst E0
  obtain ⟨w0_0, w0_1, w0_2, w0_3⟩ := w0
  obtain ⟨a1, rfl, rfl, rfl, w1⟩ := open_int Try.underlying3 (hval 1 3 v1 rfl rfl) h1
  obtain ⟨a2, rfl, rfl, rfl, w2⟩ := open_int Try.underlying3 (hval 2 3 v2 rfl rfl) h2
  clear hA0 hval0 hsz0 hsz
  obtain ⟨k, h⟩ := Pure.MotionSteps a0_0 a0_1 a0_2 a0_3 a1 a2 w0_0 w0_1 w0_2 w0_3 w1 w2
  refine (S.tipstafflaw09_MotionSteps.calls k a0_0 a0_1 a0_2 a0_3 a1 a2 true W h).mono fun e W' he0 => ?_
  obtain ⟨he, bel0⟩ := he0
  have bel : Below W.heap.size W W' := bel0
  subst he
  exact ⟨_, rfl, _, _, _, [], _, [], hW', trodAll_mk1 (shut_bool Try.underlying4 _), (trodAll_cons_mk (Below.trod laidOut (by kernel_rfl) (of_decide_eq_true (by kernel_rfl)) k0 bel lt0) (trodAll_cons_mk (shut_int Try.underlying3 w1) (trodAll_cons_mk (shut_int Try.underlying3 w2) trodAll_mk0))), rfl, bel.frame _, fun h => by cases h⟩
theorem over : Rows.motionStepsRow.holds Try.pinned (OpenSpec.ofChange Rows.motionStepsSpec) :=
  OpenClaim.holds_of_wide 3 Try.f3 rfl rfl rfl rfl rfl rfl rfl ⟨rfl, rfl, rfl, rfl, rfl⟩ rfl rfl rfl rfl rfl (by kernel_rfl) Try.func3 (by kernel_rfl)
    (of_decide_eq_true (by kernel_rfl)) (by unfold Func.isWrapper; first | (rw [if_pos (by decide +kernel)]; kernel_rfl) | (rw [if_neg (by decide +kernel)]; exact ⟨rfl, rfl⟩))
    (fun os started H enc _ => lifted os started H enc)
theorem proved : Rows.MotionStepsSaid := over
#print axioms proved
end Go.Proofs.Ytocbjclflabmcaa.motionSteps
namespace Go.Proofs.Ytocbjclflabmcaa
/-- The row, under a short name, for the claim. -/
theorem motionSteps_holds : Rows.MotionStepsSaid := motionSteps.proved
end Go.Proofs.Ytocbjclflabmcaa
