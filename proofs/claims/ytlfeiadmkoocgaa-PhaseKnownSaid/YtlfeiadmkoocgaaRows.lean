/-
  No cell of these rows narrows 'for every input' (looked for: loops, veiled, ifaces, maps, wideKeys, modest, calm, conditions, laid).
  DERIVED. THE GIVEN ROWS OF THIS SEAT. 7 by the template 'for every input the law returns true; each argument reads behind the call as it read before'; 0 by the template 'total and deterministic' (their statements: YtlfeiadmkoocgaaTotals.lean).
  GIVEN WITH THE SEED: the statements are not yours to turn. If you find one false, say at which input.
  Laid BY PROGRAM, IN A SANDBOX (cutbox-rows.mjs): the forced cells as the released guide's own fill.sh prints them over the translation 788f8232a56966c4… (all of the seat's roots in one cut). By AI agents, Wed Nov 11 2026. No macro, syntax, notation, axiom, sorry.
-/
import Derived.Test.YtlfeiadmkoocgaaChecked
import GoSem.Claim
import GoSem.ClaimJoined
import GoSem.ClaimMapViews
import Derived.JoinedTies
import Derived.KernelRfl
namespace Go.Proofs.Ytlfeiadmkoocgaa
/- THE CELL 'sum', in the pinned program and in every row, IS THE sha256 OF THE DUMP (.gsa) THAT YtlfeiadmkoocgaaProg.lean LOADS. Nothing in Lean hashes anything: it is a label: what it is worth is what the hold of that sum in a sandbox is worth. -/
noncomputable def Try.pinned : Pinned := { name := "ytlfeiadmkoocgaa", sum := "788f8232a56966c477990cb95e9c7a52cad256374cfb3e47cdf4615e22ee5475", checked := Try.checked }
namespace Rows
def none {H : Type} : Left H := { results := [], args := [] }

/-- 'tipstafflaw26.PhaseBacks': WHATEVER THE INPUT: true; the input reads as it did. -/
def phaseBacksSpec : ChangeSpec := { name := "phaseBacks", fn := fun _ => fun
  | [d1, d2] => { results := [.lit (.bool true)], args := [d1, d2] }
  | _ => none }
def phaseBacksRow : OpenClaim := { program := "ytlfeiadmkoocgaa", sum := "788f8232a56966c477990cb95e9c7a52cad256374cfb3e47cdf4615e22ee5475", func := "tipstaff/tipstafflaw26.PhaseBacks", spec := "phaseBacks", unfollowed := true, recurses := true, apart := false }
def PhaseBacksSaid : Prop := phaseBacksRow.holds Try.pinned (OpenSpec.ofChange phaseBacksSpec)

/-- ITS FALSE NEIGHBOUR: 'it returns false'. Refute it at one input. -/
def phaseBacksWrong : ChangeSpec := { name := "phaseBacks", fn := fun _ => fun
  | [d1, d2] => { results := [.lit (.bool false)], args := [d1, d2] }
  | _ => none }
def PhaseBacksWrongFalsely : Prop := phaseBacksRow.holds Try.pinned (OpenSpec.ofChange phaseBacksWrong)

/-- 'tipstafflaw26.PhaseWalks': WHATEVER THE INPUT: true; the input reads as it did. -/
def phaseWalksSpec : ChangeSpec := { name := "phaseWalks", fn := fun _ => fun
  | [d1, d2] => { results := [.lit (.bool true)], args := [d1, d2] }
  | _ => none }
def phaseWalksRow : OpenClaim := { program := "ytlfeiadmkoocgaa", sum := "788f8232a56966c477990cb95e9c7a52cad256374cfb3e47cdf4615e22ee5475", func := "tipstaff/tipstafflaw26.PhaseWalks", spec := "phaseWalks", unfollowed := true, recurses := true, apart := false }
def PhaseWalksSaid : Prop := phaseWalksRow.holds Try.pinned (OpenSpec.ofChange phaseWalksSpec)

/-- ITS FALSE NEIGHBOUR: 'it returns false'. Refute it at one input. -/
def phaseWalksWrong : ChangeSpec := { name := "phaseWalks", fn := fun _ => fun
  | [d1, d2] => { results := [.lit (.bool false)], args := [d1, d2] }
  | _ => none }
def PhaseWalksWrongFalsely : Prop := phaseWalksRow.holds Try.pinned (OpenSpec.ofChange phaseWalksWrong)

/-- 'tipstafflaw26.PhaseTicks': WHATEVER THE INPUT: true; the input reads as it did. -/
def phaseTicksSpec : ChangeSpec := { name := "phaseTicks", fn := fun _ => fun
  | [d1, d2] => { results := [.lit (.bool true)], args := [d1, d2] }
  | _ => none }
def phaseTicksRow : OpenClaim := { program := "ytlfeiadmkoocgaa", sum := "788f8232a56966c477990cb95e9c7a52cad256374cfb3e47cdf4615e22ee5475", func := "tipstaff/tipstafflaw26.PhaseTicks", spec := "phaseTicks", unfollowed := true, recurses := true, apart := false }
def PhaseTicksSaid : Prop := phaseTicksRow.holds Try.pinned (OpenSpec.ofChange phaseTicksSpec)

/-- ITS FALSE NEIGHBOUR: 'it returns false'. Refute it at one input. -/
def phaseTicksWrong : ChangeSpec := { name := "phaseTicks", fn := fun _ => fun
  | [d1, d2] => { results := [.lit (.bool false)], args := [d1, d2] }
  | _ => none }
def PhaseTicksWrongFalsely : Prop := phaseTicksRow.holds Try.pinned (OpenSpec.ofChange phaseTicksWrong)

/-- 'tipstafflaw26.PhaseNexts': WHATEVER THE INPUT: true; the input reads as it did. -/
def phaseNextsSpec : ChangeSpec := { name := "phaseNexts", fn := fun _ => fun
  | [d1, d2, d3] => { results := [.lit (.bool true)], args := [d1, d2, d3] }
  | _ => none }
def phaseNextsRow : OpenClaim := { program := "ytlfeiadmkoocgaa", sum := "788f8232a56966c477990cb95e9c7a52cad256374cfb3e47cdf4615e22ee5475", func := "tipstaff/tipstafflaw26.PhaseNexts", spec := "phaseNexts", unfollowed := true, recurses := true, apart := false }
def PhaseNextsSaid : Prop := phaseNextsRow.holds Try.pinned (OpenSpec.ofChange phaseNextsSpec)

/-- ITS FALSE NEIGHBOUR: 'it returns false'. Refute it at one input. -/
def phaseNextsWrong : ChangeSpec := { name := "phaseNexts", fn := fun _ => fun
  | [d1, d2, d3] => { results := [.lit (.bool false)], args := [d1, d2, d3] }
  | _ => none }
def PhaseNextsWrongFalsely : Prop := phaseNextsRow.holds Try.pinned (OpenSpec.ofChange phaseNextsWrong)

/-- 'tipstafflaw26.PhaseSums': WHATEVER THE INPUT: true; the input reads as it did. -/
def phaseSumsSpec : ChangeSpec := { name := "phaseSums", fn := fun _ => fun
  | [d1, d2, d3] => { results := [.lit (.bool true)], args := [d1, d2, d3] }
  | _ => none }
def phaseSumsRow : OpenClaim := { program := "ytlfeiadmkoocgaa", sum := "788f8232a56966c477990cb95e9c7a52cad256374cfb3e47cdf4615e22ee5475", func := "tipstaff/tipstafflaw26.PhaseSums", spec := "phaseSums", unfollowed := true, recurses := true, apart := false }
def PhaseSumsSaid : Prop := phaseSumsRow.holds Try.pinned (OpenSpec.ofChange phaseSumsSpec)

/-- ITS FALSE NEIGHBOUR: 'it returns false'. Refute it at one input. -/
def phaseSumsWrong : ChangeSpec := { name := "phaseSums", fn := fun _ => fun
  | [d1, d2, d3] => { results := [.lit (.bool false)], args := [d1, d2, d3] }
  | _ => none }
def PhaseSumsWrongFalsely : Prop := phaseSumsRow.holds Try.pinned (OpenSpec.ofChange phaseSumsWrong)

/-- 'tipstafflaw26.PhaseParts': WHATEVER THE INPUT: true; the input reads as it did. -/
def phasePartsSpec : ChangeSpec := { name := "phaseParts", fn := fun _ => fun
  | [d1, d2] => { results := [.lit (.bool true)], args := [d1, d2] }
  | _ => none }
def phasePartsRow : OpenClaim := { program := "ytlfeiadmkoocgaa", sum := "788f8232a56966c477990cb95e9c7a52cad256374cfb3e47cdf4615e22ee5475", func := "tipstaff/tipstafflaw26.PhaseParts", spec := "phaseParts", unfollowed := true, recurses := true, apart := false }
def PhasePartsSaid : Prop := phasePartsRow.holds Try.pinned (OpenSpec.ofChange phasePartsSpec)

/-- ITS FALSE NEIGHBOUR: 'it returns false'. Refute it at one input. -/
def phasePartsWrong : ChangeSpec := { name := "phaseParts", fn := fun _ => fun
  | [d1, d2] => { results := [.lit (.bool false)], args := [d1, d2] }
  | _ => none }
def PhasePartsWrongFalsely : Prop := phasePartsRow.holds Try.pinned (OpenSpec.ofChange phasePartsWrong)

/-- 'tipstafflaw26.PhaseKnown': WHATEVER THE INPUT: true; the input reads as it did. -/
def phaseKnownSpec : ChangeSpec := { name := "phaseKnown", fn := fun _ => fun
  | [] => { results := [.lit (.bool true)], args := [] }
  | _ => none }
def phaseKnownRow : OpenClaim := { program := "ytlfeiadmkoocgaa", sum := "788f8232a56966c477990cb95e9c7a52cad256374cfb3e47cdf4615e22ee5475", func := "tipstaff/tipstafflaw26.PhaseKnown", spec := "phaseKnown", unfollowed := true, recurses := true, apart := false }
def PhaseKnownSaid : Prop := phaseKnownRow.holds Try.pinned (OpenSpec.ofChange phaseKnownSpec)

/-- ITS FALSE NEIGHBOUR: 'it returns false'. Refute it at one input. -/
def phaseKnownWrong : ChangeSpec := { name := "phaseKnown", fn := fun _ => fun
  | [] => { results := [.lit (.bool false)], args := [] }
  | _ => none }
def PhaseKnownWrongFalsely : Prop := phaseKnownRow.holds Try.pinned (OpenSpec.ofChange phaseKnownWrong)

/- THE SECOND FORM. 'bulk': how many values and letters a reading holds, each counted each time it is reached (what is shared counts as often as it is met; a slice's spare places count too). A statement '..UptoSaid' is the law's where the arguments, and the package variables that the reading takes, are together of bulk at most 1048576: NARROWER than '..Said'. Prove '..Said' where nothing that the law and all that it calls make is longer than what came in: it says more and counts as full. Else prove '..UptoSaid'. A law counts once. -/
mutual
def uptoBulk {H : Type} : DataW H → Nat
  | .lit (.string bytes) => bytes.length + 1
  | .lit _ => 1
  | .nil => 1
  | .ptr d => uptoBulk d + 1
  | .slice elems spare => uptoBulkAll elems + uptoBulkAll spare + 1
  | .agg parts => uptoBulkAll parts + 1
  | .iface _ d => uptoBulk d + 1
  | .map entries => uptoBulkEntries entries + 1
  | .held _ => 1
def uptoBulkAll {H : Type} : List (DataW H) → Nat
  | [] => 0
  | d :: r => uptoBulk d + uptoBulkAll r
def uptoBulkEntries {H : Type} : List (Lit × DataW H) → Nat
  | [] => 0
  | x :: r => uptoBulkEntry x + uptoBulkEntries r
def uptoBulkEntry {H : Type} : Lit × DataW H → Nat
  | (.string bytes, d) => bytes.length + uptoBulk d + 1
  | (_, d) => uptoBulk d + 1
 end
def uptoSmall : (H : Type) → List (DataW H) → Bool := fun _ ds => decide (uptoBulkAll ds ≤ 1048576)
def OpenSpec.upto (s : _root_.Go.ChangeSpec) : _root_.Go.OpenSpec := { _root_.Go.OpenSpec.ofChange s with cond := some uptoSmall }

/-- 'tipstafflaw26.PhaseBacks', WHERE WHAT IT READS IS OF BULK AT MOST 1048576: true; the input reads as it did. -/
def phaseBacksUptoRow : OpenClaim := { program := "ytlfeiadmkoocgaa", sum := "788f8232a56966c477990cb95e9c7a52cad256374cfb3e47cdf4615e22ee5475", func := "tipstaff/tipstafflaw26.PhaseBacks", spec := "phaseBacks", unfollowed := true, recurses := true, apart := false, narrowed := true }
def PhaseBacksUptoSaid : Prop := phaseBacksUptoRow.holds Try.pinned (OpenSpec.upto phaseBacksSpec)

/-- 'tipstafflaw26.PhaseWalks', WHERE WHAT IT READS IS OF BULK AT MOST 1048576: true; the input reads as it did. -/
def phaseWalksUptoRow : OpenClaim := { program := "ytlfeiadmkoocgaa", sum := "788f8232a56966c477990cb95e9c7a52cad256374cfb3e47cdf4615e22ee5475", func := "tipstaff/tipstafflaw26.PhaseWalks", spec := "phaseWalks", unfollowed := true, recurses := true, apart := false, narrowed := true }
def PhaseWalksUptoSaid : Prop := phaseWalksUptoRow.holds Try.pinned (OpenSpec.upto phaseWalksSpec)

/-- 'tipstafflaw26.PhaseTicks', WHERE WHAT IT READS IS OF BULK AT MOST 1048576: true; the input reads as it did. -/
def phaseTicksUptoRow : OpenClaim := { program := "ytlfeiadmkoocgaa", sum := "788f8232a56966c477990cb95e9c7a52cad256374cfb3e47cdf4615e22ee5475", func := "tipstaff/tipstafflaw26.PhaseTicks", spec := "phaseTicks", unfollowed := true, recurses := true, apart := false, narrowed := true }
def PhaseTicksUptoSaid : Prop := phaseTicksUptoRow.holds Try.pinned (OpenSpec.upto phaseTicksSpec)

/-- 'tipstafflaw26.PhaseNexts', WHERE WHAT IT READS IS OF BULK AT MOST 1048576: true; the input reads as it did. -/
def phaseNextsUptoRow : OpenClaim := { program := "ytlfeiadmkoocgaa", sum := "788f8232a56966c477990cb95e9c7a52cad256374cfb3e47cdf4615e22ee5475", func := "tipstaff/tipstafflaw26.PhaseNexts", spec := "phaseNexts", unfollowed := true, recurses := true, apart := false, narrowed := true }
def PhaseNextsUptoSaid : Prop := phaseNextsUptoRow.holds Try.pinned (OpenSpec.upto phaseNextsSpec)

/-- 'tipstafflaw26.PhaseSums', WHERE WHAT IT READS IS OF BULK AT MOST 1048576: true; the input reads as it did. -/
def phaseSumsUptoRow : OpenClaim := { program := "ytlfeiadmkoocgaa", sum := "788f8232a56966c477990cb95e9c7a52cad256374cfb3e47cdf4615e22ee5475", func := "tipstaff/tipstafflaw26.PhaseSums", spec := "phaseSums", unfollowed := true, recurses := true, apart := false, narrowed := true }
def PhaseSumsUptoSaid : Prop := phaseSumsUptoRow.holds Try.pinned (OpenSpec.upto phaseSumsSpec)

/-- 'tipstafflaw26.PhaseParts', WHERE WHAT IT READS IS OF BULK AT MOST 1048576: true; the input reads as it did. -/
def phasePartsUptoRow : OpenClaim := { program := "ytlfeiadmkoocgaa", sum := "788f8232a56966c477990cb95e9c7a52cad256374cfb3e47cdf4615e22ee5475", func := "tipstaff/tipstafflaw26.PhaseParts", spec := "phaseParts", unfollowed := true, recurses := true, apart := false, narrowed := true }
def PhasePartsUptoSaid : Prop := phasePartsUptoRow.holds Try.pinned (OpenSpec.upto phasePartsSpec)

/-- 'tipstafflaw26.PhaseKnown', WHERE WHAT IT READS IS OF BULK AT MOST 1048576: true; the input reads as it did. -/
def phaseKnownUptoRow : OpenClaim := { program := "ytlfeiadmkoocgaa", sum := "788f8232a56966c477990cb95e9c7a52cad256374cfb3e47cdf4615e22ee5475", func := "tipstaff/tipstafflaw26.PhaseKnown", spec := "phaseKnown", unfollowed := true, recurses := true, apart := false, narrowed := true }
def PhaseKnownUptoSaid : Prop := phaseKnownUptoRow.holds Try.pinned (OpenSpec.upto phaseKnownSpec)

end Rows
end Go.Proofs.Ytlfeiadmkoocgaa
