/- The row of ReportKnown: for every input the call returns true and leaves what it was given as it was. -/
import Derived.Test.YtenlokaaloenmaaDoorRows
import Derived.Test.YtenlokaaloenmaaDoorPureReportKnown
import Derived.Test.YtenlokaaloenmaaDoorAskReportKnown
import Derived.WalkKit
import Derived.ProofKit
import Derived.OpenShut
import Derived.ShutString
import Derived.ChangeOld
import Derived.Below
import Derived.LaidMore
import Derived.Stop.Joined
import Derived.SevenTiedAt
import Derived.Test.YtenlokaaloenmaaDoorLaid
import Derived.Test.YtenlokaaloenmaaDoorCards
import Derived.Test.YtenlokaaloenmaaDoorTie
import Derived.SizedLaws
import Derived.Carry
import Derived.Test.YtenlokaaloenmaaDoorWSized
namespace Go.Proofs.YtenlokaaloenmaaDoor.reportKnown
open Go.ChangeShapes Go.WideShapes Go.ChangeAt Go.RowKit Go.Proofs.YtenlokaaloenmaaDoorW.PrintWords Go.Proofs.YtenlokaaloenmaaDoor.Pure Go.Proofs.YtenlokaaloenmaaDoor.S
open Go.ChangeMaps (open_string shut_string)
set_option linter.unusedVariables false
theorem own : ownKnob Tryd.prog.godebug = none := by kernel_rfl
theorem laidOut : laidOutB Tryd.prog = true := by kernel_rfl
set_option maxRecDepth 100000 in
theorem lifted (os : Os) (started : os.Started) (H : Type) (enc : TypeId × Value → H) :
    ReturnsInHanded {} Tryd.checked os 7 .any (fun w args => (Rows.reportKnownSpec.pre enc Tryd.prog Tryd.f7 [] false w args ∧ laidMetH Tryd.prog S.laidList w) ∧ sizedMet enc Tryd.prog Tryd.f7 (OpenSpec.ofChange Rows.reportKnownSpec) false w args) (Rows.reportKnownSpec.post enc Tryd.prog Tryd.f7 false true false false) := by
  refine returnsInHanded_of_change_and (C := Tryd.checked) (X := fun w _ => laidMetH Tryd.prog S.laidList w) (fun _ _ _ hh h => h.of_heap hh) own started (by kernel_rfl) Tryd.func7
    (ChangeSpec.witness_shaped (enc := enc) (C := Tryd.checked) (os := os) (X := fun w _ => laidMetH Tryd.prog S.laidList w) false (World.doorLaid Tryd.prog 400 os) #[] 8 rfl (World.shaped_of_RefB (by kernel_rfl) (by kernel_rfl)) (by kernel_rfl) (by kernel_rfl) (by kernel_rfl) (S.door_met os _)) ?_
  intro W base args ds gs before hval0 hW hcnd hsz0 hL _
  have hsz : (DataW.weightsEach Tryd.prog (Tryd.f7.params.toList ++ Rows.reportKnownSpec.plain.varTypes Tryd.prog) (ds ++ gs)).all (· ≤ reachBytes) = true := hsz0
  have hval : ∀ (j : Nat) t v, Tryd.f7.params[j]? = some t → args[j]? = some v → Value.okWide Tryd.prog W .any base t v := hval0
  have hW' := hW
  obtain ⟨p, q, hA0, hV, rfl, hfz, hnd⟩ := hW
  have hA : DataW.TrodAll enc Tryd.prog W 0 (fun _ => true) true Tryd.f7.params.toList args.toList ds p := hA0
  rw [Tryd.params7] at hA hval hsz
  obtain ⟨rfl, rfl, rfl⟩ := trodAll_none hA
  obtain ⟨rfl, rfl⟩ := trodVars_none hV
  clear hA0 hval0 hsz0 hsz
  have h := Pure.ReportKnown  
  refine (S.tipstafflaw43_ReportKnown.calls  true W (S.laid_of hL) h).mono fun e W' he0 => ?_
  obtain ⟨he, bel0⟩ := he0
  have bel : Below W.heap.size W W' := bel0
  subst he
  exact ⟨_, rfl, _, _, _, [], _, [], hW', trodAll_mk1 (shut_bool Tryd.underlying4 _), trodAll_mk0, rfl, bel.frame _, fun h => by cases h⟩
theorem over : Rows.reportKnownRow.holds Tryd.pinned (OpenSpec.ofChange Rows.reportKnownSpec) :=
  OpenClaim.holds_of_wide 7 Tryd.f7 rfl rfl rfl rfl rfl rfl rfl ⟨rfl, rfl, rfl, rfl, rfl⟩ rfl rfl rfl rfl rfl (by kernel_rfl) Tryd.func7 (by kernel_rfl)
    (of_decide_eq_true (by kernel_rfl)) (by unfold Func.isWrapper; first | (rw [if_pos (by decide +kernel)]; kernel_rfl) | (rw [if_neg (by decide +kernel)]; exact ⟨rfl, rfl⟩))
    (fun os started H enc _ => lifted os started H enc)
theorem proved : Rows.ReportKnownSaid := over
theorem card : Rows.ReportKnownCardSaid :=
  Claim7.holds_tied_plain_at .later [] [.data] true (true, "ddf6a5fcb5ceee5bf8653d7cf745ff1e6ce515b5f66c456afde475f0e4279c09") false
    proved (fun _ h => by cases h) (by kernel_rfl) (fun _ h => by cases h) reportKnown_row_tie rfl ⟨rfl, rfl⟩ (by kernel_rfl) rfl
    (fun f fn hf hfn => by
      obtain rfl : f = 7 := Option.some.inj ((show Tryd.prog.funcNamed "tipstaff/tipstafflaw43.ReportKnown" = some 7 by kernel_rfl).symm.trans hf) |>.symm
      obtain rfl : fn = Tryd.f7 := (Option.some.inj (Tryd.func7.symm.trans hfn)).symm
      exact ⟨by kernel_rfl, fun j t ht => by
        rw [Tryd.params7] at ht
        simp at ht⟩)
    (by kernel_rfl)
#print axioms card
end Go.Proofs.YtenlokaaloenmaaDoor.reportKnown
namespace Go.Proofs.YtenlokaaloenmaaDoor
/-- The card, under a short name, for the claim. -/
theorem reportKnown_holds : Rows.ReportKnownCardSaid := reportKnown.card
end Go.Proofs.YtenlokaaloenmaaDoor
