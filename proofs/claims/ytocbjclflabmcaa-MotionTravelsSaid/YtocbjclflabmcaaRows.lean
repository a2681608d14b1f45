/-
  No cell of these rows narrows 'for every input' (looked for: loops, veiled, ifaces, maps, wideKeys, modest, calm, conditions, laid).
  DERIVED. THE GIVEN ROWS OF THIS SEAT. 6 by the template 'for every input the law returns true; each argument reads behind the call as it read before'; 0 by the template 'total and deterministic' (their statements: YtocbjclflabmcaaTotals.lean).
  GIVEN WITH THE SEED: the statements are not yours to turn. If you find one false, say at which input.
  Laid BY PROGRAM, IN A SANDBOX (cutbox-rows.mjs): the forced cells as the released guide's own fill.sh prints them over the translation 3bd2d0925d9ac232… (all of the seat's roots in one cut). By AI agents, Wed Nov 11 2026. No macro, syntax, notation, axiom, sorry.
-/
import Derived.Test.YtocbjclflabmcaaChecked
import GoSem.Claim
import GoSem.ClaimJoined
import GoSem.ClaimMapViews
import Derived.JoinedTies
import Derived.KernelRfl
namespace Go.Proofs.Ytocbjclflabmcaa
/- THE CELL 'sum', in the pinned program and in every row, IS THE sha256 OF THE DUMP (.gsa) THAT YtocbjclflabmcaaProg.lean LOADS. Nothing in Lean hashes anything: it is a label: what it is worth is what the hold of that sum in a sandbox is worth. -/
noncomputable def Try.pinned : Pinned := { name := "ytocbjclflabmcaa", sum := "3bd2d0925d9ac232002cb36225d6c5ad4ada81d64746061c3a4f6d2bd736bea4", checked := Try.checked }
namespace Rows
def none {H : Type} : Left H := { results := [], args := [] }

/-- 'tipstafflaw09.MotionSteps': WHATEVER THE INPUT: true; the input reads as it did. -/
def motionStepsSpec : ChangeSpec := { name := "motionSteps", fn := fun _ => fun
  | [d1, d2, d3] => { results := [.lit (.bool true)], args := [d1, d2, d3] }
  | _ => none }
def motionStepsRow : OpenClaim := { program := "ytocbjclflabmcaa", sum := "3bd2d0925d9ac232002cb36225d6c5ad4ada81d64746061c3a4f6d2bd736bea4", func := "tipstaff/tipstafflaw09.MotionSteps", spec := "motionSteps", unfollowed := true, recurses := true, apart := false }
def MotionStepsSaid : Prop := motionStepsRow.holds Try.pinned (OpenSpec.ofChange motionStepsSpec)

/-- ITS FALSE NEIGHBOUR: 'it returns false'. Refute it at one input. -/
def motionStepsWrong : ChangeSpec := { name := "motionSteps", fn := fun _ => fun
  | [d1, d2, d3] => { results := [.lit (.bool false)], args := [d1, d2, d3] }
  | _ => none }
def MotionStepsWrongFalsely : Prop := motionStepsRow.holds Try.pinned (OpenSpec.ofChange motionStepsWrong)

/-- 'tipstafflaw09.MotionTurns': WHATEVER THE INPUT: true; the input reads as it did. -/
def motionTurnsSpec : ChangeSpec := { name := "motionTurns", fn := fun _ => fun
  | [d1, d2, d3] => { results := [.lit (.bool true)], args := [d1, d2, d3] }
  | _ => none }
def motionTurnsRow : OpenClaim := { program := "ytocbjclflabmcaa", sum := "3bd2d0925d9ac232002cb36225d6c5ad4ada81d64746061c3a4f6d2bd736bea4", func := "tipstaff/tipstafflaw09.MotionTurns", spec := "motionTurns", unfollowed := true, recurses := true, apart := false }
def MotionTurnsSaid : Prop := motionTurnsRow.holds Try.pinned (OpenSpec.ofChange motionTurnsSpec)

/-- ITS FALSE NEIGHBOUR: 'it returns false'. Refute it at one input. -/
def motionTurnsWrong : ChangeSpec := { name := "motionTurns", fn := fun _ => fun
  | [d1, d2, d3] => { results := [.lit (.bool false)], args := [d1, d2, d3] }
  | _ => none }
def MotionTurnsWrongFalsely : Prop := motionTurnsRow.holds Try.pinned (OpenSpec.ofChange motionTurnsWrong)

/-- 'tipstafflaw09.MotionKnown': WHATEVER THE INPUT: true; the input reads as it did. -/
def motionKnownSpec : ChangeSpec := { name := "motionKnown", fn := fun _ => fun
  | [] => { results := [.lit (.bool true)], args := [] }
  | _ => none }
def motionKnownRow : OpenClaim := { program := "ytocbjclflabmcaa", sum := "3bd2d0925d9ac232002cb36225d6c5ad4ada81d64746061c3a4f6d2bd736bea4", func := "tipstaff/tipstafflaw09.MotionKnown", spec := "motionKnown", unfollowed := true, recurses := true, apart := false }
def MotionKnownSaid : Prop := motionKnownRow.holds Try.pinned (OpenSpec.ofChange motionKnownSpec)

/-- ITS FALSE NEIGHBOUR: 'it returns false'. Refute it at one input. -/
def motionKnownWrong : ChangeSpec := { name := "motionKnown", fn := fun _ => fun
  | [] => { results := [.lit (.bool false)], args := [] }
  | _ => none }
def MotionKnownWrongFalsely : Prop := motionKnownRow.holds Try.pinned (OpenSpec.ofChange motionKnownWrong)

/-- 'tipstafflaw09.MotionKeeps': WHATEVER THE INPUT: true; the input reads as it did. -/
def motionKeepsSpec : ChangeSpec := { name := "motionKeeps", fn := fun _ => fun
  | [d1, d2, d3, d4] => { results := [.lit (.bool true)], args := [d1, d2, d3, d4] }
  | _ => none }
def motionKeepsRow : OpenClaim := { program := "ytocbjclflabmcaa", sum := "3bd2d0925d9ac232002cb36225d6c5ad4ada81d64746061c3a4f6d2bd736bea4", func := "tipstaff/tipstafflaw09.MotionKeeps", spec := "motionKeeps", unfollowed := true, recurses := true, apart := false }
def MotionKeepsSaid : Prop := motionKeepsRow.holds Try.pinned (OpenSpec.ofChange motionKeepsSpec)

/-- ITS FALSE NEIGHBOUR: 'it returns false'. Refute it at one input. -/
def motionKeepsWrong : ChangeSpec := { name := "motionKeeps", fn := fun _ => fun
  | [d1, d2, d3, d4] => { results := [.lit (.bool false)], args := [d1, d2, d3, d4] }
  | _ => none }
def MotionKeepsWrongFalsely : Prop := motionKeepsRow.holds Try.pinned (OpenSpec.ofChange motionKeepsWrong)

/-- 'tipstafflaw09.MotionTravels': WHATEVER THE INPUT: true; the input reads as it did. -/
def motionTravelsSpec : ChangeSpec := { name := "motionTravels", fn := fun _ => fun
  | [d1, d2, d3, d4, d5] => { results := [.lit (.bool true)], args := [d1, d2, d3, d4, d5] }
  | _ => none }
def motionTravelsRow : OpenClaim := { program := "ytocbjclflabmcaa", sum := "3bd2d0925d9ac232002cb36225d6c5ad4ada81d64746061c3a4f6d2bd736bea4", func := "tipstaff/tipstafflaw09.MotionTravels", spec := "motionTravels", unfollowed := true, recurses := true, apart := false }
def MotionTravelsSaid : Prop := motionTravelsRow.holds Try.pinned (OpenSpec.ofChange motionTravelsSpec)

/-- ITS FALSE NEIGHBOUR: 'it returns false'. Refute it at one input. -/
def motionTravelsWrong : ChangeSpec := { name := "motionTravels", fn := fun _ => fun
  | [d1, d2, d3, d4, d5] => { results := [.lit (.bool false)], args := [d1, d2, d3, d4, d5] }
  | _ => none }
def MotionTravelsWrongFalsely : Prop := motionTravelsRow.holds Try.pinned (OpenSpec.ofChange motionTravelsWrong)

/-- 'tipstafflaw09.MotionStops': WHATEVER THE INPUT: true; the input reads as it did. -/
def motionStopsSpec : ChangeSpec := { name := "motionStops", fn := fun _ => fun
  | [d1, d2, d3, d4] => { results := [.lit (.bool true)], args := [d1, d2, d3, d4] }
  | _ => none }
def motionStopsRow : OpenClaim := { program := "ytocbjclflabmcaa", sum := "3bd2d0925d9ac232002cb36225d6c5ad4ada81d64746061c3a4f6d2bd736bea4", func := "tipstaff/tipstafflaw09.MotionStops", spec := "motionStops", unfollowed := true, recurses := true, apart := false }
def MotionStopsSaid : Prop := motionStopsRow.holds Try.pinned (OpenSpec.ofChange motionStopsSpec)

/-- ITS FALSE NEIGHBOUR: 'it returns false'. Refute it at one input. -/
def motionStopsWrong : ChangeSpec := { name := "motionStops", fn := fun _ => fun
  | [d1, d2, d3, d4] => { results := [.lit (.bool false)], args := [d1, d2, d3, d4] }
  | _ => none }
def MotionStopsWrongFalsely : Prop := motionStopsRow.holds Try.pinned (OpenSpec.ofChange motionStopsWrong)

/- THE SECOND FORM. 'bulk': how many values and letters a reading holds, each counted each time it is reached (what is shared counts as often as it is met; a slice's spare places count too). A statement '..UptoSaid' is the law's where the arguments, and the package variables that the reading takes, are together of bulk at most 1048576: NARROWER than '..Said'. Prove '..Said' where nothing that the law and all that it calls make is longer than what came in: it says more and counts as full. Else prove '..UptoSaid'. A law counts once. -/
mutual
def uptoBulk {H : Type} : DataW H → Nat
  | .lit (.string bytes) => bytes.length + 1
  | .lit _ => 1
  | .nil => 1
  | .ptr d => uptoBulk d + 1
  | .slice elems spare => uptoBulkAll elems + uptoBulkAll spare + 1
  | .agg parts => uptoBulkAll parts + 1
  | .iface _ d => uptoBulk d + 1
  | .map entries => uptoBulkEntries entries + 1
  | .held _ => 1
def uptoBulkAll {H : Type} : List (DataW H) → Nat
  | [] => 0
  | d :: r => uptoBulk d + uptoBulkAll r
def uptoBulkEntries {H : Type} : List (Lit × DataW H) → Nat
  | [] => 0
  | x :: r => uptoBulkEntry x + uptoBulkEntries r
def uptoBulkEntry {H : Type} : Lit × DataW H → Nat
  | (.string bytes, d) => bytes.length + uptoBulk d + 1
  | (_, d) => uptoBulk d + 1
 end
def uptoSmall : (H : Type) → List (DataW H) → Bool := fun _ ds => decide (uptoBulkAll ds ≤ 1048576)
def OpenSpec.upto (s : _root_.Go.ChangeSpec) : _root_.Go.OpenSpec := { _root_.Go.OpenSpec.ofChange s with cond := some uptoSmall }

/-- 'tipstafflaw09.MotionSteps', WHERE WHAT IT READS IS OF BULK AT MOST 1048576: true; the input reads as it did. -/
def motionStepsUptoRow : OpenClaim := { program := "ytocbjclflabmcaa", sum := "3bd2d0925d9ac232002cb36225d6c5ad4ada81d64746061c3a4f6d2bd736bea4", func := "tipstaff/tipstafflaw09.MotionSteps", spec := "motionSteps", unfollowed := true, recurses := true, apart := false, narrowed := true }
def MotionStepsUptoSaid : Prop := motionStepsUptoRow.holds Try.pinned (OpenSpec.upto motionStepsSpec)

/-- 'tipstafflaw09.MotionTurns', WHERE WHAT IT READS IS OF BULK AT MOST 1048576: true; the input reads as it did. -/
def motionTurnsUptoRow : OpenClaim := { program := "ytocbjclflabmcaa", sum := "3bd2d0925d9ac232002cb36225d6c5ad4ada81d64746061c3a4f6d2bd736bea4", func := "tipstaff/tipstafflaw09.MotionTurns", spec := "motionTurns", unfollowed := true, recurses := true, apart := false, narrowed := true }
def MotionTurnsUptoSaid : Prop := motionTurnsUptoRow.holds Try.pinned (OpenSpec.upto motionTurnsSpec)

/-- 'tipstafflaw09.MotionKnown', WHERE WHAT IT READS IS OF BULK AT MOST 1048576: true; the input reads as it did. -/
def motionKnownUptoRow : OpenClaim := { program := "ytocbjclflabmcaa", sum := "3bd2d0925d9ac232002cb36225d6c5ad4ada81d64746061c3a4f6d2bd736bea4", func := "tipstaff/tipstafflaw09.MotionKnown", spec := "motionKnown", unfollowed := true, recurses := true, apart := false, narrowed := true }
def MotionKnownUptoSaid : Prop := motionKnownUptoRow.holds Try.pinned (OpenSpec.upto motionKnownSpec)

/-- 'tipstafflaw09.MotionKeeps', WHERE WHAT IT READS IS OF BULK AT MOST 1048576: true; the input reads as it did. -/
def motionKeepsUptoRow : OpenClaim := { program := "ytocbjclflabmcaa", sum := "3bd2d0925d9ac232002cb36225d6c5ad4ada81d64746061c3a4f6d2bd736bea4", func := "tipstaff/tipstafflaw09.MotionKeeps", spec := "motionKeeps", unfollowed := true, recurses := true, apart := false, narrowed := true }
def MotionKeepsUptoSaid : Prop := motionKeepsUptoRow.holds Try.pinned (OpenSpec.upto motionKeepsSpec)

/-- 'tipstafflaw09.MotionTravels', WHERE WHAT IT READS IS OF BULK AT MOST 1048576: true; the input reads as it did. -/
def motionTravelsUptoRow : OpenClaim := { program := "ytocbjclflabmcaa", sum := "3bd2d0925d9ac232002cb36225d6c5ad4ada81d64746061c3a4f6d2bd736bea4", func := "tipstaff/tipstafflaw09.MotionTravels", spec := "motionTravels", unfollowed := true, recurses := true, apart := false, narrowed := true }
def MotionTravelsUptoSaid : Prop := motionTravelsUptoRow.holds Try.pinned (OpenSpec.upto motionTravelsSpec)

/-- 'tipstafflaw09.MotionStops', WHERE WHAT IT READS IS OF BULK AT MOST 1048576: true; the input reads as it did. -/
def motionStopsUptoRow : OpenClaim := { program := "ytocbjclflabmcaa", sum := "3bd2d0925d9ac232002cb36225d6c5ad4ada81d64746061c3a4f6d2bd736bea4", func := "tipstaff/tipstafflaw09.MotionStops", spec := "motionStops", unfollowed := true, recurses := true, apart := false, narrowed := true }
def MotionStopsUptoSaid : Prop := motionStopsUptoRow.holds Try.pinned (OpenSpec.upto motionStopsSpec)

end Rows
end Go.Proofs.Ytocbjclflabmcaa
