/-
  No cell of these rows narrows 'for every input' (looked for: loops, veiled, ifaces, maps, wideKeys, modest, calm, conditions, laid).
  DERIVED. THE GIVEN ROWS OF THIS SEAT. 6 by the template 'for every input the law returns true; each argument reads behind the call as it read before'; 0 by the template 'total and deterministic' (their statements: YtbkidegpgpccfaaTotals.lean).
  GIVEN WITH THE SEED: the statements are not yours to turn. If you find one false, say at which input.
  Laid BY PROGRAM, IN A SANDBOX (cutbox-rows.mjs): the forced cells as the released guide's own fill.sh prints them over the translation 0d9f54ba6aa0b6a9… (all of the seat's roots in one cut). By AI agents, Wed Nov 11 2026. No macro, syntax, notation, axiom, sorry.
-/
import Derived.Test.YtbkidegpgpccfaaChecked
import GoSem.Claim
import GoSem.ClaimJoined
import GoSem.ClaimMapViews
import Derived.JoinedTies
import Derived.KernelRfl
namespace Go.Proofs.Ytbkidegpgpccfaa
/- THE CELL 'sum', in the pinned program and in every row, IS THE sha256 OF THE DUMP (.gsa) THAT YtbkidegpgpccfaaProg.lean LOADS. Nothing in Lean hashes anything: it is a label: what it is worth is what the hold of that sum in a sandbox is worth. -/
noncomputable def Try.pinned : Pinned := { name := "ytbkidegpgpccfaa", sum := "0d9f54ba6aa0b6a922723c4898a19e84a0a2cccb283fdf130a0cdfe928d1f3ed", checked := Try.checked }
namespace Rows
def none {H : Type} : Left H := { results := [], args := [] }

/-- 'tipstafflaw16.PanelSwings': WHATEVER THE INPUT: true; the input reads as it did. -/
def panelSwingsSpec : ChangeSpec := { name := "panelSwings", fn := fun _ => fun
  | [d1, d2, d3, d4] => { results := [.lit (.bool true)], args := [d1, d2, d3, d4] }
  | _ => none }
def panelSwingsRow : OpenClaim := { program := "ytbkidegpgpccfaa", sum := "0d9f54ba6aa0b6a922723c4898a19e84a0a2cccb283fdf130a0cdfe928d1f3ed", func := "tipstaff/tipstafflaw16.PanelSwings", spec := "panelSwings", unfollowed := true, recurses := true, apart := false }
def PanelSwingsSaid : Prop := panelSwingsRow.holds Try.pinned (OpenSpec.ofChange panelSwingsSpec)

/-- ITS FALSE NEIGHBOUR: 'it returns false'. Refute it at one input. -/
def panelSwingsWrong : ChangeSpec := { name := "panelSwings", fn := fun _ => fun
  | [d1, d2, d3, d4] => { results := [.lit (.bool false)], args := [d1, d2, d3, d4] }
  | _ => none }
def PanelSwingsWrongFalsely : Prop := panelSwingsRow.holds Try.pinned (OpenSpec.ofChange panelSwingsWrong)

/-- 'tipstafflaw16.PanelKnown': WHATEVER THE INPUT: true; the input reads as it did. -/
def panelKnownSpec : ChangeSpec := { name := "panelKnown", fn := fun _ => fun
  | [] => { results := [.lit (.bool true)], args := [] }
  | _ => none }
def panelKnownRow : OpenClaim := { program := "ytbkidegpgpccfaa", sum := "0d9f54ba6aa0b6a922723c4898a19e84a0a2cccb283fdf130a0cdfe928d1f3ed", func := "tipstaff/tipstafflaw16.PanelKnown", spec := "panelKnown", unfollowed := true, recurses := true, apart := false }
def PanelKnownSaid : Prop := panelKnownRow.holds Try.pinned (OpenSpec.ofChange panelKnownSpec)

/-- ITS FALSE NEIGHBOUR: 'it returns false'. Refute it at one input. -/
def panelKnownWrong : ChangeSpec := { name := "panelKnown", fn := fun _ => fun
  | [] => { results := [.lit (.bool false)], args := [] }
  | _ => none }
def PanelKnownWrongFalsely : Prop := panelKnownRow.holds Try.pinned (OpenSpec.ofChange panelKnownWrong)

/-- 'tipstafflaw16.PanelKeeps': WHATEVER THE INPUT: true; the input reads as it did. -/
def panelKeepsSpec : ChangeSpec := { name := "panelKeeps", fn := fun _ => fun
  | [d1, d2, d3] => { results := [.lit (.bool true)], args := [d1, d2, d3] }
  | _ => none }
def panelKeepsRow : OpenClaim := { program := "ytbkidegpgpccfaa", sum := "0d9f54ba6aa0b6a922723c4898a19e84a0a2cccb283fdf130a0cdfe928d1f3ed", func := "tipstaff/tipstafflaw16.PanelKeeps", spec := "panelKeeps", unfollowed := true, recurses := true, apart := false }
def PanelKeepsSaid : Prop := panelKeepsRow.holds Try.pinned (OpenSpec.ofChange panelKeepsSpec)

/-- ITS FALSE NEIGHBOUR: 'it returns false'. Refute it at one input. -/
def panelKeepsWrong : ChangeSpec := { name := "panelKeeps", fn := fun _ => fun
  | [d1, d2, d3] => { results := [.lit (.bool false)], args := [d1, d2, d3] }
  | _ => none }
def PanelKeepsWrongFalsely : Prop := panelKeepsRow.holds Try.pinned (OpenSpec.ofChange panelKeepsWrong)

/-- 'tipstafflaw16.PanelLeads': WHATEVER THE INPUT: true; the input reads as it did. -/
def panelLeadsSpec : ChangeSpec := { name := "panelLeads", fn := fun _ => fun
  | [d1, d2, d3, d4, d5] => { results := [.lit (.bool true)], args := [d1, d2, d3, d4, d5] }
  | _ => none }
def panelLeadsRow : OpenClaim := { program := "ytbkidegpgpccfaa", sum := "0d9f54ba6aa0b6a922723c4898a19e84a0a2cccb283fdf130a0cdfe928d1f3ed", func := "tipstaff/tipstafflaw16.PanelLeads", spec := "panelLeads", unfollowed := true, recurses := true, apart := false }
def PanelLeadsSaid : Prop := panelLeadsRow.holds Try.pinned (OpenSpec.ofChange panelLeadsSpec)

/-- ITS FALSE NEIGHBOUR: 'it returns false'. Refute it at one input. -/
def panelLeadsWrong : ChangeSpec := { name := "panelLeads", fn := fun _ => fun
  | [d1, d2, d3, d4, d5] => { results := [.lit (.bool false)], args := [d1, d2, d3, d4, d5] }
  | _ => none }
def PanelLeadsWrongFalsely : Prop := panelLeadsRow.holds Try.pinned (OpenSpec.ofChange panelLeadsWrong)

/-- 'tipstafflaw16.PanelBack': WHATEVER THE INPUT: true; the input reads as it did. -/
def panelBackSpec : ChangeSpec := { name := "panelBack", fn := fun _ => fun
  | [d1, d2, d3] => { results := [.lit (.bool true)], args := [d1, d2, d3] }
  | _ => none }
def panelBackRow : OpenClaim := { program := "ytbkidegpgpccfaa", sum := "0d9f54ba6aa0b6a922723c4898a19e84a0a2cccb283fdf130a0cdfe928d1f3ed", func := "tipstaff/tipstafflaw16.PanelBack", spec := "panelBack", unfollowed := true, recurses := true, apart := false }
def PanelBackSaid : Prop := panelBackRow.holds Try.pinned (OpenSpec.ofChange panelBackSpec)

/-- ITS FALSE NEIGHBOUR: 'it returns false'. Refute it at one input. -/
def panelBackWrong : ChangeSpec := { name := "panelBack", fn := fun _ => fun
  | [d1, d2, d3] => { results := [.lit (.bool false)], args := [d1, d2, d3] }
  | _ => none }
def PanelBackWrongFalsely : Prop := panelBackRow.holds Try.pinned (OpenSpec.ofChange panelBackWrong)

/-- 'tipstafflaw16.PanelSteps': WHATEVER THE INPUT: true; the input reads as it did. -/
def panelStepsSpec : ChangeSpec := { name := "panelSteps", fn := fun _ => fun
  | [d1, d2, d3] => { results := [.lit (.bool true)], args := [d1, d2, d3] }
  | _ => none }
def panelStepsRow : OpenClaim := { program := "ytbkidegpgpccfaa", sum := "0d9f54ba6aa0b6a922723c4898a19e84a0a2cccb283fdf130a0cdfe928d1f3ed", func := "tipstaff/tipstafflaw16.PanelSteps", spec := "panelSteps", unfollowed := true, recurses := true, apart := false }
def PanelStepsSaid : Prop := panelStepsRow.holds Try.pinned (OpenSpec.ofChange panelStepsSpec)

/-- ITS FALSE NEIGHBOUR: 'it returns false'. Refute it at one input. -/
def panelStepsWrong : ChangeSpec := { name := "panelSteps", fn := fun _ => fun
  | [d1, d2, d3] => { results := [.lit (.bool false)], args := [d1, d2, d3] }
  | _ => none }
def PanelStepsWrongFalsely : Prop := panelStepsRow.holds Try.pinned (OpenSpec.ofChange panelStepsWrong)

/- THE SECOND FORM. 'bulk': how many values and letters a reading holds, each counted each time it is reached (what is shared counts as often as it is met; a slice's spare places count too). A statement '..UptoSaid' is the law's where the arguments, and the package variables that the reading takes, are together of bulk at most 1048576: NARROWER than '..Said'. Prove '..Said' where nothing that the law and all that it calls make is longer than what came in: it says more and counts as full. Else prove '..UptoSaid'. A law counts once. -/
mutual
def uptoBulk {H : Type} : DataW H → Nat
  | .lit (.string bytes) => bytes.length + 1
  | .lit _ => 1
  | .nil => 1
  | .ptr d => uptoBulk d + 1
  | .slice elems spare => uptoBulkAll elems + uptoBulkAll spare + 1
  | .agg parts => uptoBulkAll parts + 1
  | .iface _ d => uptoBulk d + 1
  | .map entries => uptoBulkEntries entries + 1
  | .held _ => 1
def uptoBulkAll {H : Type} : List (DataW H) → Nat
  | [] => 0
  | d :: r => uptoBulk d + uptoBulkAll r
def uptoBulkEntries {H : Type} : List (Lit × DataW H) → Nat
  | [] => 0
  | x :: r => uptoBulkEntry x + uptoBulkEntries r
def uptoBulkEntry {H : Type} : Lit × DataW H → Nat
  | (.string bytes, d) => bytes.length + uptoBulk d + 1
  | (_, d) => uptoBulk d + 1
 end
def uptoSmall : (H : Type) → List (DataW H) → Bool := fun _ ds => decide (uptoBulkAll ds ≤ 1048576)
def OpenSpec.upto (s : _root_.Go.ChangeSpec) : _root_.Go.OpenSpec := { _root_.Go.OpenSpec.ofChange s with cond := some uptoSmall }

/-- 'tipstafflaw16.PanelSwings', WHERE WHAT IT READS IS OF BULK AT MOST 1048576: true; the input reads as it did. -/
def panelSwingsUptoRow : OpenClaim := { program := "ytbkidegpgpccfaa", sum := "0d9f54ba6aa0b6a922723c4898a19e84a0a2cccb283fdf130a0cdfe928d1f3ed", func := "tipstaff/tipstafflaw16.PanelSwings", spec := "panelSwings", unfollowed := true, recurses := true, apart := false, narrowed := true }
def PanelSwingsUptoSaid : Prop := panelSwingsUptoRow.holds Try.pinned (OpenSpec.upto panelSwingsSpec)

/-- 'tipstafflaw16.PanelKnown', WHERE WHAT IT READS IS OF BULK AT MOST 1048576: true; the input reads as it did. -/
def panelKnownUptoRow : OpenClaim := { program := "ytbkidegpgpccfaa", sum := "0d9f54ba6aa0b6a922723c4898a19e84a0a2cccb283fdf130a0cdfe928d1f3ed", func := "tipstaff/tipstafflaw16.PanelKnown", spec := "panelKnown", unfollowed := true, recurses := true, apart := false, narrowed := true }
def PanelKnownUptoSaid : Prop := panelKnownUptoRow.holds Try.pinned (OpenSpec.upto panelKnownSpec)

/-- 'tipstafflaw16.PanelKeeps', WHERE WHAT IT READS IS OF BULK AT MOST 1048576: true; the input reads as it did. -/
def panelKeepsUptoRow : OpenClaim := { program := "ytbkidegpgpccfaa", sum := "0d9f54ba6aa0b6a922723c4898a19e84a0a2cccb283fdf130a0cdfe928d1f3ed", func := "tipstaff/tipstafflaw16.PanelKeeps", spec := "panelKeeps", unfollowed := true, recurses := true, apart := false, narrowed := true }
def PanelKeepsUptoSaid : Prop := panelKeepsUptoRow.holds Try.pinned (OpenSpec.upto panelKeepsSpec)

/-- 'tipstafflaw16.PanelLeads', WHERE WHAT IT READS IS OF BULK AT MOST 1048576: true; the input reads as it did. -/
def panelLeadsUptoRow : OpenClaim := { program := "ytbkidegpgpccfaa", sum := "0d9f54ba6aa0b6a922723c4898a19e84a0a2cccb283fdf130a0cdfe928d1f3ed", func := "tipstaff/tipstafflaw16.PanelLeads", spec := "panelLeads", unfollowed := true, recurses := true, apart := false, narrowed := true }
def PanelLeadsUptoSaid : Prop := panelLeadsUptoRow.holds Try.pinned (OpenSpec.upto panelLeadsSpec)

/-- 'tipstafflaw16.PanelBack', WHERE WHAT IT READS IS OF BULK AT MOST 1048576: true; the input reads as it did. -/
def panelBackUptoRow : OpenClaim := { program := "ytbkidegpgpccfaa", sum := "0d9f54ba6aa0b6a922723c4898a19e84a0a2cccb283fdf130a0cdfe928d1f3ed", func := "tipstaff/tipstafflaw16.PanelBack", spec := "panelBack", unfollowed := true, recurses := true, apart := false, narrowed := true }
def PanelBackUptoSaid : Prop := panelBackUptoRow.holds Try.pinned (OpenSpec.upto panelBackSpec)

/-- 'tipstafflaw16.PanelSteps', WHERE WHAT IT READS IS OF BULK AT MOST 1048576: true; the input reads as it did. -/
def panelStepsUptoRow : OpenClaim := { program := "ytbkidegpgpccfaa", sum := "0d9f54ba6aa0b6a922723c4898a19e84a0a2cccb283fdf130a0cdfe928d1f3ed", func := "tipstaff/tipstafflaw16.PanelSteps", spec := "panelSteps", unfollowed := true, recurses := true, apart := false, narrowed := true }
def PanelStepsUptoSaid : Prop := panelStepsUptoRow.holds Try.pinned (OpenSpec.upto panelStepsSpec)

end Rows
end Go.Proofs.Ytbkidegpgpccfaa
