/-
  No cell of these rows narrows 'for every input' (looked for: loops, veiled, ifaces, maps, wideKeys, modest, calm, conditions, laid).
  DERIVED. THE GIVEN ROWS OF THIS SEAT. 7 by the template 'for every input the law returns true; each argument reads behind the call as it read before'; 0 by the template 'total and deterministic' (their statements: YtgjcpocncpeibaaTotals.lean).
  GIVEN WITH THE SEED: the statements are not yours to turn. If you find one false, say at which input.
  Laid BY PROGRAM, IN A SANDBOX (cutbox-rows.mjs): the forced cells as the released guide's own fill.sh prints them over the translation 90ba4572848939b4… (all of the seat's roots in one cut). By AI agents, Wed Nov 11 2026. No macro, syntax, notation, axiom, sorry.
-/
import Derived.Test.YtgjcpocncpeibaaChecked
import GoSem.Claim
import GoSem.ClaimJoined
import GoSem.ClaimMapViews
import Derived.JoinedTies
import Derived.KernelRfl
namespace Go.Proofs.Ytgjcpocncpeibaa
/- THE CELL 'sum', in the pinned program and in every row, IS THE sha256 OF THE DUMP (.gsa) THAT YtgjcpocncpeibaaProg.lean LOADS. Nothing in Lean hashes anything: it is a label: what it is worth is what the hold of that sum in a sandbox is worth. -/
noncomputable def Try.pinned : Pinned := { name := "ytgjcpocncpeibaa", sum := "90ba4572848939b4309a83d0a5d0615ac5e9df7ab5f7dbd4b4d6004e92bd54f7", checked := Try.checked }
namespace Rows
def none {H : Type} : Left H := { results := [], args := [] }

/-- 'tipstafflaw08.ProfileLeast': WHATEVER THE INPUT: true; the input reads as it did. -/
def profileLeastSpec : ChangeSpec := { name := "profileLeast", fn := fun _ => fun
  | [d1, d2] => { results := [.lit (.bool true)], args := [d1, d2] }
  | _ => none }
def profileLeastRow : OpenClaim := { program := "ytgjcpocncpeibaa", sum := "90ba4572848939b4309a83d0a5d0615ac5e9df7ab5f7dbd4b4d6004e92bd54f7", func := "tipstaff/tipstafflaw08.ProfileLeast", spec := "profileLeast", unfollowed := true, recurses := true, apart := false }
def ProfileLeastSaid : Prop := profileLeastRow.holds Try.pinned (OpenSpec.ofChange profileLeastSpec)

/-- ITS FALSE NEIGHBOUR: 'it returns false'. Refute it at one input. -/
def profileLeastWrong : ChangeSpec := { name := "profileLeast", fn := fun _ => fun
  | [d1, d2] => { results := [.lit (.bool false)], args := [d1, d2] }
  | _ => none }
def ProfileLeastWrongFalsely : Prop := profileLeastRow.holds Try.pinned (OpenSpec.ofChange profileLeastWrong)

/-- 'tipstafflaw08.ProfileNexts': WHATEVER THE INPUT: true; the input reads as it did. -/
def profileNextsSpec : ChangeSpec := { name := "profileNexts", fn := fun _ => fun
  | [d1, d2, d3] => { results := [.lit (.bool true)], args := [d1, d2, d3] }
  | _ => none }
def profileNextsRow : OpenClaim := { program := "ytgjcpocncpeibaa", sum := "90ba4572848939b4309a83d0a5d0615ac5e9df7ab5f7dbd4b4d6004e92bd54f7", func := "tipstaff/tipstafflaw08.ProfileNexts", spec := "profileNexts", unfollowed := true, recurses := true, apart := false }
def ProfileNextsSaid : Prop := profileNextsRow.holds Try.pinned (OpenSpec.ofChange profileNextsSpec)

/-- ITS FALSE NEIGHBOUR: 'it returns false'. Refute it at one input. -/
def profileNextsWrong : ChangeSpec := { name := "profileNexts", fn := fun _ => fun
  | [d1, d2, d3] => { results := [.lit (.bool false)], args := [d1, d2, d3] }
  | _ => none }
def ProfileNextsWrongFalsely : Prop := profileNextsRow.holds Try.pinned (OpenSpec.ofChange profileNextsWrong)

/-- 'tipstafflaw08.ProfileShapes': WHATEVER THE INPUT: true; the input reads as it did. -/
def profileShapesSpec : ChangeSpec := { name := "profileShapes", fn := fun _ => fun
  | [d1, d2] => { results := [.lit (.bool true)], args := [d1, d2] }
  | _ => none }
def profileShapesRow : OpenClaim := { program := "ytgjcpocncpeibaa", sum := "90ba4572848939b4309a83d0a5d0615ac5e9df7ab5f7dbd4b4d6004e92bd54f7", func := "tipstaff/tipstafflaw08.ProfileShapes", spec := "profileShapes", unfollowed := true, recurses := true, apart := false }
def ProfileShapesSaid : Prop := profileShapesRow.holds Try.pinned (OpenSpec.ofChange profileShapesSpec)

/-- ITS FALSE NEIGHBOUR: 'it returns false'. Refute it at one input. -/
def profileShapesWrong : ChangeSpec := { name := "profileShapes", fn := fun _ => fun
  | [d1, d2] => { results := [.lit (.bool false)], args := [d1, d2] }
  | _ => none }
def ProfileShapesWrongFalsely : Prop := profileShapesRow.holds Try.pinned (OpenSpec.ofChange profileShapesWrong)

/-- 'tipstafflaw08.ProfileRides': WHATEVER THE INPUT: true; the input reads as it did. -/
def profileRidesSpec : ChangeSpec := { name := "profileRides", fn := fun _ => fun
  | [d1, d2, d3] => { results := [.lit (.bool true)], args := [d1, d2, d3] }
  | _ => none }
def profileRidesRow : OpenClaim := { program := "ytgjcpocncpeibaa", sum := "90ba4572848939b4309a83d0a5d0615ac5e9df7ab5f7dbd4b4d6004e92bd54f7", func := "tipstaff/tipstafflaw08.ProfileRides", spec := "profileRides", unfollowed := true, recurses := true, apart := false }
def ProfileRidesSaid : Prop := profileRidesRow.holds Try.pinned (OpenSpec.ofChange profileRidesSpec)

/-- ITS FALSE NEIGHBOUR: 'it returns false'. Refute it at one input. -/
def profileRidesWrong : ChangeSpec := { name := "profileRides", fn := fun _ => fun
  | [d1, d2, d3] => { results := [.lit (.bool false)], args := [d1, d2, d3] }
  | _ => none }
def ProfileRidesWrongFalsely : Prop := profileRidesRow.holds Try.pinned (OpenSpec.ofChange profileRidesWrong)

/-- 'tipstafflaw08.ProfileReaches': WHATEVER THE INPUT: true; the input reads as it did. -/
def profileReachesSpec : ChangeSpec := { name := "profileReaches", fn := fun _ => fun
  | [d1, d2] => { results := [.lit (.bool true)], args := [d1, d2] }
  | _ => none }
def profileReachesRow : OpenClaim := { program := "ytgjcpocncpeibaa", sum := "90ba4572848939b4309a83d0a5d0615ac5e9df7ab5f7dbd4b4d6004e92bd54f7", func := "tipstaff/tipstafflaw08.ProfileReaches", spec := "profileReaches", unfollowed := true, recurses := true, apart := false }
def ProfileReachesSaid : Prop := profileReachesRow.holds Try.pinned (OpenSpec.ofChange profileReachesSpec)

/-- ITS FALSE NEIGHBOUR: 'it returns false'. Refute it at one input. -/
def profileReachesWrong : ChangeSpec := { name := "profileReaches", fn := fun _ => fun
  | [d1, d2] => { results := [.lit (.bool false)], args := [d1, d2] }
  | _ => none }
def ProfileReachesWrongFalsely : Prop := profileReachesRow.holds Try.pinned (OpenSpec.ofChange profileReachesWrong)

/-- 'tipstafflaw08.ProfileGrows': WHATEVER THE INPUT: true; the input reads as it did. -/
def profileGrowsSpec : ChangeSpec := { name := "profileGrows", fn := fun _ => fun
  | [d1, d2, d3] => { results := [.lit (.bool true)], args := [d1, d2, d3] }
  | _ => none }
def profileGrowsRow : OpenClaim := { program := "ytgjcpocncpeibaa", sum := "90ba4572848939b4309a83d0a5d0615ac5e9df7ab5f7dbd4b4d6004e92bd54f7", func := "tipstaff/tipstafflaw08.ProfileGrows", spec := "profileGrows", unfollowed := true, recurses := true, apart := false }
def ProfileGrowsSaid : Prop := profileGrowsRow.holds Try.pinned (OpenSpec.ofChange profileGrowsSpec)

/-- ITS FALSE NEIGHBOUR: 'it returns false'. Refute it at one input. -/
def profileGrowsWrong : ChangeSpec := { name := "profileGrows", fn := fun _ => fun
  | [d1, d2, d3] => { results := [.lit (.bool false)], args := [d1, d2, d3] }
  | _ => none }
def ProfileGrowsWrongFalsely : Prop := profileGrowsRow.holds Try.pinned (OpenSpec.ofChange profileGrowsWrong)

/-- 'tipstafflaw08.ProfileKnown': WHATEVER THE INPUT: true; the input reads as it did. -/
def profileKnownSpec : ChangeSpec := { name := "profileKnown", fn := fun _ => fun
  | [] => { results := [.lit (.bool true)], args := [] }
  | _ => none }
def profileKnownRow : OpenClaim := { program := "ytgjcpocncpeibaa", sum := "90ba4572848939b4309a83d0a5d0615ac5e9df7ab5f7dbd4b4d6004e92bd54f7", func := "tipstaff/tipstafflaw08.ProfileKnown", spec := "profileKnown", unfollowed := true, recurses := true, apart := false }
def ProfileKnownSaid : Prop := profileKnownRow.holds Try.pinned (OpenSpec.ofChange profileKnownSpec)

/-- ITS FALSE NEIGHBOUR: 'it returns false'. Refute it at one input. -/
def profileKnownWrong : ChangeSpec := { name := "profileKnown", fn := fun _ => fun
  | [] => { results := [.lit (.bool false)], args := [] }
  | _ => none }
def ProfileKnownWrongFalsely : Prop := profileKnownRow.holds Try.pinned (OpenSpec.ofChange profileKnownWrong)

/- THE SECOND FORM. 'bulk': how many values and letters a reading holds, each counted each time it is reached (what is shared counts as often as it is met; a slice's spare places count too). A statement '..UptoSaid' is the law's where the arguments, and the package variables that the reading takes, are together of bulk at most 1048576: NARROWER than '..Said'. Prove '..Said' where nothing that the law and all that it calls make is longer than what came in: it says more and counts as full. Else prove '..UptoSaid'. A law counts once. -/
mutual
def uptoBulk {H : Type} : DataW H → Nat
  | .lit (.string bytes) => bytes.length + 1
  | .lit _ => 1
  | .nil => 1
  | .ptr d => uptoBulk d + 1
  | .slice elems spare => uptoBulkAll elems + uptoBulkAll spare + 1
  | .agg parts => uptoBulkAll parts + 1
  | .iface _ d => uptoBulk d + 1
  | .map entries => uptoBulkEntries entries + 1
  | .held _ => 1
def uptoBulkAll {H : Type} : List (DataW H) → Nat
  | [] => 0
  | d :: r => uptoBulk d + uptoBulkAll r
def uptoBulkEntries {H : Type} : List (Lit × DataW H) → Nat
  | [] => 0
  | x :: r => uptoBulkEntry x + uptoBulkEntries r
def uptoBulkEntry {H : Type} : Lit × DataW H → Nat
  | (.string bytes, d) => bytes.length + uptoBulk d + 1
  | (_, d) => uptoBulk d + 1
 end
def uptoSmall : (H : Type) → List (DataW H) → Bool := fun _ ds => decide (uptoBulkAll ds ≤ 1048576)
def OpenSpec.upto (s : _root_.Go.ChangeSpec) : _root_.Go.OpenSpec := { _root_.Go.OpenSpec.ofChange s with cond := some uptoSmall }

/-- 'tipstafflaw08.ProfileLeast', WHERE WHAT IT READS IS OF BULK AT MOST 1048576: true; the input reads as it did. -/
def profileLeastUptoRow : OpenClaim := { program := "ytgjcpocncpeibaa", sum := "90ba4572848939b4309a83d0a5d0615ac5e9df7ab5f7dbd4b4d6004e92bd54f7", func := "tipstaff/tipstafflaw08.ProfileLeast", spec := "profileLeast", unfollowed := true, recurses := true, apart := false, narrowed := true }
def ProfileLeastUptoSaid : Prop := profileLeastUptoRow.holds Try.pinned (OpenSpec.upto profileLeastSpec)

/-- 'tipstafflaw08.ProfileNexts', WHERE WHAT IT READS IS OF BULK AT MOST 1048576: true; the input reads as it did. -/
def profileNextsUptoRow : OpenClaim := { program := "ytgjcpocncpeibaa", sum := "90ba4572848939b4309a83d0a5d0615ac5e9df7ab5f7dbd4b4d6004e92bd54f7", func := "tipstaff/tipstafflaw08.ProfileNexts", spec := "profileNexts", unfollowed := true, recurses := true, apart := false, narrowed := true }
def ProfileNextsUptoSaid : Prop := profileNextsUptoRow.holds Try.pinned (OpenSpec.upto profileNextsSpec)

/-- 'tipstafflaw08.ProfileShapes', WHERE WHAT IT READS IS OF BULK AT MOST 1048576: true; the input reads as it did. -/
def profileShapesUptoRow : OpenClaim := { program := "ytgjcpocncpeibaa", sum := "90ba4572848939b4309a83d0a5d0615ac5e9df7ab5f7dbd4b4d6004e92bd54f7", func := "tipstaff/tipstafflaw08.ProfileShapes", spec := "profileShapes", unfollowed := true, recurses := true, apart := false, narrowed := true }
def ProfileShapesUptoSaid : Prop := profileShapesUptoRow.holds Try.pinned (OpenSpec.upto profileShapesSpec)

/-- 'tipstafflaw08.ProfileRides', WHERE WHAT IT READS IS OF BULK AT MOST 1048576: true; the input reads as it did. -/
def profileRidesUptoRow : OpenClaim := { program := "ytgjcpocncpeibaa", sum := "90ba4572848939b4309a83d0a5d0615ac5e9df7ab5f7dbd4b4d6004e92bd54f7", func := "tipstaff/tipstafflaw08.ProfileRides", spec := "profileRides", unfollowed := true, recurses := true, apart := false, narrowed := true }
def ProfileRidesUptoSaid : Prop := profileRidesUptoRow.holds Try.pinned (OpenSpec.upto profileRidesSpec)

/-- 'tipstafflaw08.ProfileReaches', WHERE WHAT IT READS IS OF BULK AT MOST 1048576: true; the input reads as it did. -/
def profileReachesUptoRow : OpenClaim := { program := "ytgjcpocncpeibaa", sum := "90ba4572848939b4309a83d0a5d0615ac5e9df7ab5f7dbd4b4d6004e92bd54f7", func := "tipstaff/tipstafflaw08.ProfileReaches", spec := "profileReaches", unfollowed := true, recurses := true, apart := false, narrowed := true }
def ProfileReachesUptoSaid : Prop := profileReachesUptoRow.holds Try.pinned (OpenSpec.upto profileReachesSpec)

/-- 'tipstafflaw08.ProfileGrows', WHERE WHAT IT READS IS OF BULK AT MOST 1048576: true; the input reads as it did. -/
def profileGrowsUptoRow : OpenClaim := { program := "ytgjcpocncpeibaa", sum := "90ba4572848939b4309a83d0a5d0615ac5e9df7ab5f7dbd4b4d6004e92bd54f7", func := "tipstaff/tipstafflaw08.ProfileGrows", spec := "profileGrows", unfollowed := true, recurses := true, apart := false, narrowed := true }
def ProfileGrowsUptoSaid : Prop := profileGrowsUptoRow.holds Try.pinned (OpenSpec.upto profileGrowsSpec)

/-- 'tipstafflaw08.ProfileKnown', WHERE WHAT IT READS IS OF BULK AT MOST 1048576: true; the input reads as it did. -/
def profileKnownUptoRow : OpenClaim := { program := "ytgjcpocncpeibaa", sum := "90ba4572848939b4309a83d0a5d0615ac5e9df7ab5f7dbd4b4d6004e92bd54f7", func := "tipstaff/tipstafflaw08.ProfileKnown", spec := "profileKnown", unfollowed := true, recurses := true, apart := false, narrowed := true }
def ProfileKnownUptoSaid : Prop := profileKnownUptoRow.holds Try.pinned (OpenSpec.upto profileKnownSpec)

end Rows
end Go.Proofs.Ytgjcpocncpeibaa
