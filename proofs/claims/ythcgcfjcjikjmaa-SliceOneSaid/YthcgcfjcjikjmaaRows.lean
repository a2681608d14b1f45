/-
  No cell of these rows narrows 'for every input' (looked for: loops, veiled, ifaces, maps, wideKeys, modest, calm, conditions, laid).
  DERIVED. THE GIVEN ROWS OF THIS SEAT. 5 by the template 'for every input the law returns true; each argument reads behind the call as it read before'; 0 by the template 'total and deterministic' (their statements: YthcgcfjcjikjmaaTotals.lean).
  GIVEN WITH THE SEED: the statements are not yours to turn. If you find one false, say at which input.
  Laid BY PROGRAM, IN A SANDBOX (cutbox-rows.mjs): the forced cells as the released guide's own fill.sh prints them over the translation 052535b2fbf2d535… (all of the seat's roots in one cut). By AI agents, Wed Nov 11 2026. No macro, syntax, notation, axiom, sorry.
-/
import Derived.Test.YthcgcfjcjikjmaaChecked
import GoSem.Claim
import GoSem.ClaimJoined
import GoSem.ClaimMapViews
import Derived.JoinedTies
import Derived.KernelRfl
namespace Go.Proofs.Ythcgcfjcjikjmaa
/- THE CELL 'sum', in the pinned program and in every row, IS THE sha256 OF THE DUMP (.gsa) THAT YthcgcfjcjikjmaaProg.lean LOADS. Nothing in Lean hashes anything: it is a label: what it is worth is what the hold of that sum in a sandbox is worth. -/
noncomputable def Try.pinned : Pinned := { name := "ythcgcfjcjikjmaa", sum := "052535b2fbf2d5350a6917127defc8335a94fd346cbedc6fccc3896a4f6d56e2", checked := Try.checked }
namespace Rows
def none {H : Type} : Left H := { results := [], args := [] }

/-- 'tipstafflaw25.SliceLooks': WHATEVER THE INPUT: true; the input reads as it did. -/
def sliceLooksSpec : ChangeSpec := { name := "sliceLooks", fn := fun _ => fun
  | [d1, d2, d3, d4] => { results := [.lit (.bool true)], args := [d1, d2, d3, d4] }
  | _ => none }
def sliceLooksRow : OpenClaim := { program := "ythcgcfjcjikjmaa", sum := "052535b2fbf2d5350a6917127defc8335a94fd346cbedc6fccc3896a4f6d56e2", func := "tipstaff/tipstafflaw25.SliceLooks", spec := "sliceLooks", unfollowed := true, recurses := true, apart := false }
def SliceLooksSaid : Prop := sliceLooksRow.holds Try.pinned (OpenSpec.ofChange sliceLooksSpec)

/-- ITS FALSE NEIGHBOUR: 'it returns false'. Refute it at one input. -/
def sliceLooksWrong : ChangeSpec := { name := "sliceLooks", fn := fun _ => fun
  | [d1, d2, d3, d4] => { results := [.lit (.bool false)], args := [d1, d2, d3, d4] }
  | _ => none }
def SliceLooksWrongFalsely : Prop := sliceLooksRow.holds Try.pinned (OpenSpec.ofChange sliceLooksWrong)

/-- 'tipstafflaw25.SliceFinds': WHATEVER THE INPUT: true; the input reads as it did. -/
def sliceFindsSpec : ChangeSpec := { name := "sliceFinds", fn := fun _ => fun
  | [d1, d2, d3, d4, d5] => { results := [.lit (.bool true)], args := [d1, d2, d3, d4, d5] }
  | _ => none }
def sliceFindsRow : OpenClaim := { program := "ythcgcfjcjikjmaa", sum := "052535b2fbf2d5350a6917127defc8335a94fd346cbedc6fccc3896a4f6d56e2", func := "tipstaff/tipstafflaw25.SliceFinds", spec := "sliceFinds", unfollowed := true, recurses := true, apart := false }
def SliceFindsSaid : Prop := sliceFindsRow.holds Try.pinned (OpenSpec.ofChange sliceFindsSpec)

/-- ITS FALSE NEIGHBOUR: 'it returns false'. Refute it at one input. -/
def sliceFindsWrong : ChangeSpec := { name := "sliceFinds", fn := fun _ => fun
  | [d1, d2, d3, d4, d5] => { results := [.lit (.bool false)], args := [d1, d2, d3, d4, d5] }
  | _ => none }
def SliceFindsWrongFalsely : Prop := sliceFindsRow.holds Try.pinned (OpenSpec.ofChange sliceFindsWrong)

/-- 'tipstafflaw25.SliceKnown': WHATEVER THE INPUT: true; the input reads as it did. -/
def sliceKnownSpec : ChangeSpec := { name := "sliceKnown", fn := fun _ => fun
  | [] => { results := [.lit (.bool true)], args := [] }
  | _ => none }
def sliceKnownRow : OpenClaim := { program := "ythcgcfjcjikjmaa", sum := "052535b2fbf2d5350a6917127defc8335a94fd346cbedc6fccc3896a4f6d56e2", func := "tipstaff/tipstafflaw25.SliceKnown", spec := "sliceKnown", unfollowed := true, recurses := true, apart := false }
def SliceKnownSaid : Prop := sliceKnownRow.holds Try.pinned (OpenSpec.ofChange sliceKnownSpec)

/-- ITS FALSE NEIGHBOUR: 'it returns false'. Refute it at one input. -/
def sliceKnownWrong : ChangeSpec := { name := "sliceKnown", fn := fun _ => fun
  | [] => { results := [.lit (.bool false)], args := [] }
  | _ => none }
def SliceKnownWrongFalsely : Prop := sliceKnownRow.holds Try.pinned (OpenSpec.ofChange sliceKnownWrong)

/-- 'tipstafflaw25.SliceOne': WHATEVER THE INPUT: true; the input reads as it did. -/
def sliceOneSpec : ChangeSpec := { name := "sliceOne", fn := fun _ => fun
  | [d1, d2, d3, d4] => { results := [.lit (.bool true)], args := [d1, d2, d3, d4] }
  | _ => none }
def sliceOneRow : OpenClaim := { program := "ythcgcfjcjikjmaa", sum := "052535b2fbf2d5350a6917127defc8335a94fd346cbedc6fccc3896a4f6d56e2", func := "tipstaff/tipstafflaw25.SliceOne", spec := "sliceOne", unfollowed := true, recurses := true, apart := false }
def SliceOneSaid : Prop := sliceOneRow.holds Try.pinned (OpenSpec.ofChange sliceOneSpec)

/-- ITS FALSE NEIGHBOUR: 'it returns false'. Refute it at one input. -/
def sliceOneWrong : ChangeSpec := { name := "sliceOne", fn := fun _ => fun
  | [d1, d2, d3, d4] => { results := [.lit (.bool false)], args := [d1, d2, d3, d4] }
  | _ => none }
def SliceOneWrongFalsely : Prop := sliceOneRow.holds Try.pinned (OpenSpec.ofChange sliceOneWrong)

/-- 'tipstafflaw25.SliceNext': WHATEVER THE INPUT: true; the input reads as it did. -/
def sliceNextSpec : ChangeSpec := { name := "sliceNext", fn := fun _ => fun
  | [d1, d2, d3, d4, d5] => { results := [.lit (.bool true)], args := [d1, d2, d3, d4, d5] }
  | _ => none }
def sliceNextRow : OpenClaim := { program := "ythcgcfjcjikjmaa", sum := "052535b2fbf2d5350a6917127defc8335a94fd346cbedc6fccc3896a4f6d56e2", func := "tipstaff/tipstafflaw25.SliceNext", spec := "sliceNext", unfollowed := true, recurses := true, apart := false }
def SliceNextSaid : Prop := sliceNextRow.holds Try.pinned (OpenSpec.ofChange sliceNextSpec)

/-- ITS FALSE NEIGHBOUR: 'it returns false'. Refute it at one input. -/
def sliceNextWrong : ChangeSpec := { name := "sliceNext", fn := fun _ => fun
  | [d1, d2, d3, d4, d5] => { results := [.lit (.bool false)], args := [d1, d2, d3, d4, d5] }
  | _ => none }
def SliceNextWrongFalsely : Prop := sliceNextRow.holds Try.pinned (OpenSpec.ofChange sliceNextWrong)

/- THE SECOND FORM. 'bulk': how many values and letters a reading holds, each counted each time it is reached (what is shared counts as often as it is met; a slice's spare places count too). A statement '..UptoSaid' is the law's where the arguments, and the package variables that the reading takes, are together of bulk at most 1048576: NARROWER than '..Said'. Prove '..Said' where nothing that the law and all that it calls make is longer than what came in: it says more and counts as full. Else prove '..UptoSaid'. A law counts once. -/
mutual
def uptoBulk {H : Type} : DataW H → Nat
  | .lit (.string bytes) => bytes.length + 1
  | .lit _ => 1
  | .nil => 1
  | .ptr d => uptoBulk d + 1
  | .slice elems spare => uptoBulkAll elems + uptoBulkAll spare + 1
  | .agg parts => uptoBulkAll parts + 1
  | .iface _ d => uptoBulk d + 1
  | .map entries => uptoBulkEntries entries + 1
  | .held _ => 1
def uptoBulkAll {H : Type} : List (DataW H) → Nat
  | [] => 0
  | d :: r => uptoBulk d + uptoBulkAll r
def uptoBulkEntries {H : Type} : List (Lit × DataW H) → Nat
  | [] => 0
  | x :: r => uptoBulkEntry x + uptoBulkEntries r
def uptoBulkEntry {H : Type} : Lit × DataW H → Nat
  | (.string bytes, d) => bytes.length + uptoBulk d + 1
  | (_, d) => uptoBulk d + 1
 end
def uptoSmall : (H : Type) → List (DataW H) → Bool := fun _ ds => decide (uptoBulkAll ds ≤ 1048576)
def OpenSpec.upto (s : _root_.Go.ChangeSpec) : _root_.Go.OpenSpec := { _root_.Go.OpenSpec.ofChange s with cond := some uptoSmall }

/-- 'tipstafflaw25.SliceLooks', WHERE WHAT IT READS IS OF BULK AT MOST 1048576: true; the input reads as it did. -/
def sliceLooksUptoRow : OpenClaim := { program := "ythcgcfjcjikjmaa", sum := "052535b2fbf2d5350a6917127defc8335a94fd346cbedc6fccc3896a4f6d56e2", func := "tipstaff/tipstafflaw25.SliceLooks", spec := "sliceLooks", unfollowed := true, recurses := true, apart := false, narrowed := true }
def SliceLooksUptoSaid : Prop := sliceLooksUptoRow.holds Try.pinned (OpenSpec.upto sliceLooksSpec)

/-- 'tipstafflaw25.SliceFinds', WHERE WHAT IT READS IS OF BULK AT MOST 1048576: true; the input reads as it did. -/
def sliceFindsUptoRow : OpenClaim := { program := "ythcgcfjcjikjmaa", sum := "052535b2fbf2d5350a6917127defc8335a94fd346cbedc6fccc3896a4f6d56e2", func := "tipstaff/tipstafflaw25.SliceFinds", spec := "sliceFinds", unfollowed := true, recurses := true, apart := false, narrowed := true }
def SliceFindsUptoSaid : Prop := sliceFindsUptoRow.holds Try.pinned (OpenSpec.upto sliceFindsSpec)

/-- 'tipstafflaw25.SliceKnown', WHERE WHAT IT READS IS OF BULK AT MOST 1048576: true; the input reads as it did. -/
def sliceKnownUptoRow : OpenClaim := { program := "ythcgcfjcjikjmaa", sum := "052535b2fbf2d5350a6917127defc8335a94fd346cbedc6fccc3896a4f6d56e2", func := "tipstaff/tipstafflaw25.SliceKnown", spec := "sliceKnown", unfollowed := true, recurses := true, apart := false, narrowed := true }
def SliceKnownUptoSaid : Prop := sliceKnownUptoRow.holds Try.pinned (OpenSpec.upto sliceKnownSpec)

/-- 'tipstafflaw25.SliceOne', WHERE WHAT IT READS IS OF BULK AT MOST 1048576: true; the input reads as it did. -/
def sliceOneUptoRow : OpenClaim := { program := "ythcgcfjcjikjmaa", sum := "052535b2fbf2d5350a6917127defc8335a94fd346cbedc6fccc3896a4f6d56e2", func := "tipstaff/tipstafflaw25.SliceOne", spec := "sliceOne", unfollowed := true, recurses := true, apart := false, narrowed := true }
def SliceOneUptoSaid : Prop := sliceOneUptoRow.holds Try.pinned (OpenSpec.upto sliceOneSpec)

/-- 'tipstafflaw25.SliceNext', WHERE WHAT IT READS IS OF BULK AT MOST 1048576: true; the input reads as it did. -/
def sliceNextUptoRow : OpenClaim := { program := "ythcgcfjcjikjmaa", sum := "052535b2fbf2d5350a6917127defc8335a94fd346cbedc6fccc3896a4f6d56e2", func := "tipstaff/tipstafflaw25.SliceNext", spec := "sliceNext", unfollowed := true, recurses := true, apart := false, narrowed := true }
def SliceNextUptoSaid : Prop := sliceNextUptoRow.holds Try.pinned (OpenSpec.upto sliceNextSpec)

end Rows
end Go.Proofs.Ythcgcfjcjikjmaa
