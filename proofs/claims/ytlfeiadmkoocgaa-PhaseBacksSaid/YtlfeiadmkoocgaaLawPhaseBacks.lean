/- The row of PhaseBacks: for every input the call returns true and leaves what it was given as it was. -/
import Derived.Test.YtlfeiadmkoocgaaRows
import Derived.Test.YtlfeiadmkoocgaaPurePhaseBacks
import Derived.Test.YtlfeiadmkoocgaaAskPhaseBacks
import Derived.WalkKit
import Derived.ProofKit
import Derived.OpenShut
import Derived.ShutString
import Derived.ChangeOld
import Derived.Below
import Derived.SizedLaws
import Derived.Carry
import Derived.Test.YtlfeiadmkoocgaaWSized
namespace Go.Proofs.Ytlfeiadmkoocgaa.phaseBacks
open Go.ChangeShapes Go.WideShapes Go.ChangeAt Go.RowKit Go.Proofs.YtlfeiadmkoocgaaW.PrintWords Go.Proofs.Ytlfeiadmkoocgaa.Pure Go.Proofs.Ytlfeiadmkoocgaa.S
open Go.ChangeMaps (open_string shut_string)
set_option linter.unusedVariables false
theorem own : ownKnob Try.prog.godebug = none := by kernel_rfl
theorem laidOut : laidOutB Try.prog = true := by kernel_rfl
set_option maxRecDepth 100000 in
theorem lifted (os : Os) (started : os.Started) (H : Type) (enc : TypeId × Value → H) :
    ReturnsInHanded {} Try.checked os 3 .any (Rows.phaseBacksSpec.pre6 enc Try.prog Try.f3 Rows.phaseBacksRow.domain false) (Rows.phaseBacksSpec.post enc Try.prog Try.f3 false true false false) := by
  refine returnsInHanded_of_change_sized (C := Try.checked) own started (by kernel_rfl) Try.func3
    (ChangeSpec.witness6 (enc := enc) (C := Try.checked) false ⟨#[], #[.agg #[.int .i64 0, .int .i64 0, .int .i64 0, .int .i64 0, .int .i64 0], .agg #[.int .i64 0, .int .i64 0, .int .i64 0, .int .i64 0]], []⟩ 8 (by kernel_rfl) (by kernel_rfl) (by kernel_rfl) (by kernel_rfl)) ?_
  intro W base args ds gs before hval0 hW hcnd hsz0 _
  have hsz : (DataW.weightsEach Try.prog (Try.f3.params.toList ++ Rows.phaseBacksSpec.plain.varTypes Try.prog) (ds ++ gs)).all (· ≤ reachBytes) = true := hsz0
  have hval : ∀ (j : Nat) t v, Try.f3.params[j]? = some t → args[j]? = some v → Value.okWide Try.prog W .any base t v := hval0
  have hW' := hW
  obtain ⟨p, q, hA0, hV, rfl, hfz, hnd⟩ := hW
  have hA : DataW.TrodAll enc Try.prog W 0 (fun _ => true) true Try.f3.params.toList args.toList ds p := hA0
  rw [Try.params3] at hA hval hsz
  obtain ⟨v0, vs0, d0, ds0, p0, q0, hargs, rfl, rfl, h0, r0⟩ := trodAll_cons hA
  obtain ⟨v1, vs1, d1, ds1, p1, q1, rfl, rfl, rfl, h1, r1⟩ := trodAll_cons r0
  obtain ⟨rfl, rfl, rfl⟩ := trodAll_nil r1
  obtain rfl : args = #[v0, v1] := by cases args; simp_all
  obtain ⟨rfl, rfl⟩ := trodVars_none hV
  have k0 := h0
  have lt0 : ∀ x ∈ p0, x.block < W.heap.size := by obtain ⟨m, hm⟩ := k0; exact DataW.trod_lt m _ _ _ hm
  obtain ⟨cs0, rfl, hs0⟩ := okWide_struct Try.underlying23 (hval 0 23 v0 rfl rfl)
  obtain ⟨b0, K0, w0⟩ : ∃ b : (Int) × (Int) × (Int) × (Int) × (Int), (Kd.pair (Kd.int .i64) (Kd.pair (Kd.int .i64) (Kd.pair (Kd.int .i64) (Kd.pair (Kd.int .i64) (Kd.int .i64))))).K W b cs0.toList ∧ wf23 b := by
    obtain ⟨fuel, hf⟩ := h0
    have hf' : DataW.trod enc Try.prog W 0 (fun _ => true) true fuel 23 cs0.toList = some (d0, p0) := hf
    exact opens23 hf'
  obtain ⟨a0_0, a0_1, a0_2, a0_3, a0_4⟩ := b0
  obtain ⟨cs0⟩ := cs0
  have E0 : cs0 = [.int .i64 a0_0, .int .i64 a0_1, .int .i64 a0_2, .int .i64 a0_3, .int .i64 a0_4] := by
    obtain ⟨c0_0, u0_0, hS0_0, hE0_0, ⟨c0_1, u0_1, hS0_1, hE0_1, ⟨c0_2, u0_2, hS0_2, hE0_2, ⟨c0_3, u0_3, hS0_3, hE0_3, hE0_4⟩⟩⟩⟩ := K0
    have hE : ∀ j, j < 1 → True := fun _ _ => trivial
    have hF0 : c0_0 = [.int .i64 a0_0] := hE0_0
    have hF1 : c0_1 = [.int .i64 a0_1] := hE0_1
    have hF2 : c0_2 = [.int .i64 a0_2] := hE0_2
    have hF3 : c0_3 = [.int .i64 a0_3] := hE0_3
    have hF4 : u0_3 = [.int .i64 a0_4] := hE0_4
    have hZ : cs0 = c0_0 ++ u0_0 := hS0_0
    rw [hZ, hF0, hS0_1, hF1, hS0_2, hF2, hS0_3, hF3, hF4]
    rfl
  subst E0
  obtain ⟨w0_0, w0_1, w0_2, w0_3, w0_4⟩ := w0
  have k1 := h1
  have lt1 : ∀ x ∈ p1, x.block < W.heap.size := by obtain ⟨m, hm⟩ := k1; exact DataW.trod_lt m _ _ _ hm
  obtain ⟨cs1, rfl, hs1⟩ := okWide_struct Try.underlying25 (hval 1 25 v1 rfl rfl)
  obtain ⟨b1, K1, w1⟩ : ∃ b : (Int) × (Int) × (Int) × (Int), (Kd.pair (Kd.int .i64) (Kd.pair (Kd.int .i64) (Kd.pair (Kd.int .i64) (Kd.int .i64)))).K W b cs1.toList ∧ wf25 b := by
    obtain ⟨fuel, hf⟩ := h1
    have hf' : DataW.trod enc Try.prog W 0 (fun _ => true) true fuel 25 cs1.toList = some (d1, p1) := hf
    exact opens25 hf'
  obtain ⟨a1_0, a1_1, a1_2, a1_3⟩ := b1
  obtain ⟨cs1⟩ := cs1
  have E1 : cs1 = [.int .i64 a1_0, .int .i64 a1_1, .int .i64 a1_2, .int .i64 a1_3] := by
    obtain ⟨c1_0, u1_0, hS1_0, hE1_0, ⟨c1_1, u1_1, hS1_1, hE1_1, ⟨c1_2, u1_2, hS1_2, hE1_2, hE1_3⟩⟩⟩ := K1
    have hE : ∀ j, j < 1 → True := fun _ _ => trivial
    have hF0 : c1_0 = [.int .i64 a1_0] := hE1_0
    have hF1 : c1_1 = [.int .i64 a1_1] := hE1_1
    have hF2 : c1_2 = [.int .i64 a1_2] := hE1_2
    have hF3 : u1_2 = [.int .i64 a1_3] := hE1_3
    have hZ : cs1 = c1_0 ++ u1_0 := hS1_0
    rw [hZ, hF0, hS1_1, hF1, hS1_2, hF2, hF3]
    rfl
  subst E1
  obtain ⟨w1_0, w1_1, w1_2, w1_3⟩ := w1
  clear hA0 hval0 hsz0 hsz
  obtain ⟨k, h⟩ := Pure.PhaseBacks a0_0 a0_1 a0_2 a0_3 a0_4 a1_0 a1_1 a1_2 a1_3 w0_0 w0_1 w0_2 w0_3 w0_4 w1_0 w1_1 w1_2 w1_3
  refine (S.tipstafflaw26_PhaseBacks.calls k a0_0 a0_1 a0_2 a0_3 a0_4 a1_0 a1_1 a1_2 a1_3 true W h).mono fun e W' he0 => ?_
  obtain ⟨he, bel0⟩ := he0
  have bel : Below W.heap.size W W' := bel0
  subst he
  exact ⟨_, rfl, _, _, _, [], _, [], hW', trodAll_mk1 (shut_bool Try.underlying4 _), (trodAll_cons_mk (Below.trod laidOut (by kernel_rfl) (of_decide_eq_true (by kernel_rfl)) k0 bel lt0) (trodAll_cons_mk (Below.trod laidOut (by kernel_rfl) (of_decide_eq_true (by kernel_rfl)) k1 bel lt1) trodAll_mk0)), rfl, bel.frame _, fun h => by cases h⟩
theorem over : Rows.phaseBacksRow.holds Try.pinned (OpenSpec.ofChange Rows.phaseBacksSpec) :=
  OpenClaim.holds_of_wide 3 Try.f3 rfl rfl rfl rfl rfl rfl rfl ⟨rfl, rfl, rfl, rfl, rfl⟩ rfl rfl rfl rfl rfl (by kernel_rfl) Try.func3 (by kernel_rfl)
    (of_decide_eq_true (by kernel_rfl)) (by unfold Func.isWrapper; first | (rw [if_pos (by decide +kernel)]; kernel_rfl) | (rw [if_neg (by decide +kernel)]; exact ⟨rfl, rfl⟩))
    (fun os started H enc _ => lifted os started H enc)
theorem proved : Rows.PhaseBacksSaid := over
#print axioms proved
end Go.Proofs.Ytlfeiadmkoocgaa.phaseBacks
namespace Go.Proofs.Ytlfeiadmkoocgaa
/-- The row, under a short name, for the claim. -/
theorem phaseBacks_holds : Rows.PhaseBacksSaid := phaseBacks.proved
end Go.Proofs.Ytlfeiadmkoocgaa
