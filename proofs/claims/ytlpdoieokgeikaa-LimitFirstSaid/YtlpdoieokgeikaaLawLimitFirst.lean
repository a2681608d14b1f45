/- The row of LimitFirst: for every input the call returns true and leaves what it was given as it was. -/
import Derived.Test.YtlpdoieokgeikaaRows
import Derived.Test.YtlpdoieokgeikaaPureLimitFirst
import Derived.Test.YtlpdoieokgeikaaAskLimitFirst
import Derived.WalkKit
import Derived.ProofKit
import Derived.OpenShut
import Derived.ShutString
import Derived.ChangeOld
import Derived.Below
import Derived.SizedLaws
import Derived.Carry
import Derived.Test.YtlpdoieokgeikaaWSized
namespace Go.Proofs.Ytlpdoieokgeikaa.limitFirst
open Go.ChangeShapes Go.WideShapes Go.ChangeAt Go.RowKit Go.Proofs.YtlpdoieokgeikaaW.PrintWords Go.Proofs.Ytlpdoieokgeikaa.Pure Go.Proofs.Ytlpdoieokgeikaa.S
open Go.ChangeMaps (open_string shut_string)
set_option linter.unusedVariables false
theorem own : ownKnob Try.prog.godebug = none := by kernel_rfl
theorem laidOut : laidOutB Try.prog = true := by kernel_rfl
set_option maxRecDepth 100000 in
theorem lifted (os : Os) (started : os.Started) (H : Type) (enc : TypeId × Value → H) :
    ReturnsInHanded {} Try.checked os 7 .any (Rows.limitFirstSpec.pre6 enc Try.prog Try.f7 Rows.limitFirstRow.domain false) (Rows.limitFirstSpec.post enc Try.prog Try.f7 false true false false) := by
  refine returnsInHanded_of_change_sized (C := Try.checked) own started (by kernel_rfl) Try.func7
    (ChangeSpec.witness6 (enc := enc) (C := Try.checked) false ⟨#[], #[.slice none 0 0], []⟩ 8 (by kernel_rfl) (by kernel_rfl) (by kernel_rfl) (by kernel_rfl)) ?_
  intro W base args ds gs before hval0 hW hcnd hsz0 _
  have hsz : (DataW.weightsEach Try.prog (Try.f7.params.toList ++ Rows.limitFirstSpec.plain.varTypes Try.prog) (ds ++ gs)).all (· ≤ reachBytes) = true := hsz0
  have hval : ∀ (j : Nat) t v, Try.f7.params[j]? = some t → args[j]? = some v → Value.okWide Try.prog W .any base t v := hval0
  have hW' := hW
  obtain ⟨p, q, hA0, hV, rfl, hfz, hnd⟩ := hW
  have hA : DataW.TrodAll enc Try.prog W 0 (fun _ => true) true Try.f7.params.toList args.toList ds p := hA0
  rw [Try.params7] at hA hval hsz
  obtain ⟨v0, vs0, d0, ds0, p0, q0, hargs, rfl, rfl, h0, r0⟩ := trodAll_cons hA
  obtain ⟨rfl, rfl, rfl⟩ := trodAll_nil r0
  obtain rfl : args = #[v0] := by cases args; simp_all
  obtain ⟨rfl, rfl⟩ := trodVars_none hV
  have k0 := h0
  have lt0 : ∀ x ∈ p0, x.block < W.heap.size := by obtain ⟨m, hm⟩ := k0; exact DataW.trod_lt m _ _ _ hm
  obtain ⟨a0, len0, cap0, rfl⟩ := okWide_slice Try.underlying31 (hval 0 31 v0 rfl rfl)
  have z0 : len0 * 8 ≤ 140737488351232 := sized_ints hsz (j := 0) (t := 31) rfl rfl Try.underlying31 Try.underlying3 (by kernel_rfl) (by kernel_rfl) h0
  obtain ⟨l0, A0, C0, hcs0, hc0, hr0, w0⟩ : ∃ (l : List (Int)) (A_ : Option Addr) (C_ : Nat), (Value.slice a0 len0 cap0) = .slice A_ l.length C_ ∧ l.length ≤ C_ ∧ Kd.C (Kd.int .i64) W A_ l.length l ∧ (l.length ≤ maxLen ∧ ∀ y ∈ l, (Lit.int .i64 y).wf = true) := by
    obtain ⟨fuel, hf⟩ := h0
    obtain ⟨l, ⟨A_, C_, hcs, hl, hC⟩, hw⟩ := (Opens.slice Try.underlying31 (by kernel_rfl) (Opens.int Try.underlying3)) hf
    simp only [Value.cells, List.cons.injEq, and_true] at hcs
    exact ⟨l, A_, C_, hcs, hl, hC, hw⟩
  injection hcs0 with ea0 el0 ec0
  subst ea0 el0 ec0
  clear hA0 hval0 hsz0 hsz
  obtain ⟨k, h⟩ := Pure.LimitFirst l0 w0 z0
  refine (S.tipstafflaw14_LimitFirst.calls k _ _ l0 true W hr0 hc0 h).mono fun e W' he0 => ?_
  obtain ⟨he, bel0⟩ := he0
  have bel : Below W.heap.size W W' := bel0
  subst he
  exact ⟨_, rfl, _, _, _, [], _, [], hW', trodAll_mk1 (shut_bool Try.underlying4 _), (trodAll_cons_mk (Below.trod laidOut (by kernel_rfl) (of_decide_eq_true (by kernel_rfl)) k0 bel lt0) trodAll_mk0), rfl, bel.frame _, fun h => by cases h⟩
theorem over : Rows.limitFirstRow.holds Try.pinned (OpenSpec.ofChange Rows.limitFirstSpec) :=
  OpenClaim.holds_of_wide 7 Try.f7 rfl rfl rfl rfl rfl rfl rfl ⟨rfl, rfl, rfl, rfl, rfl⟩ rfl rfl rfl rfl rfl (by kernel_rfl) Try.func7 (by kernel_rfl)
    (of_decide_eq_true (by kernel_rfl)) (by unfold Func.isWrapper; first | (rw [if_pos (by decide +kernel)]; kernel_rfl) | (rw [if_neg (by decide +kernel)]; exact ⟨rfl, rfl⟩))
    (fun os started H enc _ => lifted os started H enc)
theorem proved : Rows.LimitFirstSaid := over
#print axioms proved
end Go.Proofs.Ytlpdoieokgeikaa.limitFirst
namespace Go.Proofs.Ytlpdoieokgeikaa
/-- The row, under a short name, for the claim. -/
theorem limitFirst_holds : Rows.LimitFirstSaid := limitFirst.proved
end Go.Proofs.Ytlpdoieokgeikaa
