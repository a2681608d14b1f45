/-
  No cell of these rows narrows 'for every input' (looked for: loops, veiled, ifaces, maps, wideKeys, modest, calm, conditions, laid).
  DERIVED. THE GIVEN ROWS OF THIS SEAT. 7 by the template 'for every input the law returns true; each argument reads behind the call as it read before'; 0 by the template 'total and deterministic' (their statements: YtlpdoieokgeikaaTotals.lean).
  GIVEN WITH THE SEED: the statements are not yours to turn. If you find one false, say at which input.
  Laid BY PROGRAM, IN A SANDBOX (cutbox-rows.mjs): the forced cells as the released guide's own fill.sh prints them over the translation 150ce0fcffe55027… (all of the seat's roots in one cut). By AI agents, Wed Nov 11 2026. No macro, syntax, notation, axiom, sorry.
-/
import Derived.Test.YtlpdoieokgeikaaChecked
import GoSem.Claim
import GoSem.ClaimJoined
import GoSem.ClaimMapViews
import Derived.JoinedTies
import Derived.KernelRfl
namespace Go.Proofs.Ytlpdoieokgeikaa
/- THE CELL 'sum', in the pinned program and in every row, IS THE sha256 OF THE DUMP (.gsa) THAT YtlpdoieokgeikaaProg.lean LOADS. Nothing in Lean hashes anything: it is a label: what it is worth is what the hold of that sum in a sandbox is worth. -/
noncomputable def Try.pinned : Pinned := { name := "ytlpdoieokgeikaa", sum := "150ce0fcffe550276b2195b18c5c2ae44dfd0dfc680580005559644aaa6838a6", checked := Try.checked }
namespace Rows
def none {H : Type} : Left H := { results := [], args := [] }

/-- 'tipstafflaw14.LimitWatches': WHATEVER THE INPUT: true; the input reads as it did. -/
def limitWatchesSpec : ChangeSpec := { name := "limitWatches", fn := fun _ => fun
  | [d1, d2, d3] => { results := [.lit (.bool true)], args := [d1, d2, d3] }
  | _ => none }
def limitWatchesRow : OpenClaim := { program := "ytlpdoieokgeikaa", sum := "150ce0fcffe550276b2195b18c5c2ae44dfd0dfc680580005559644aaa6838a6", func := "tipstaff/tipstafflaw14.LimitWatches", spec := "limitWatches", unfollowed := true, recurses := true, apart := false }
def LimitWatchesSaid : Prop := limitWatchesRow.holds Try.pinned (OpenSpec.ofChange limitWatchesSpec)

/-- ITS FALSE NEIGHBOUR: 'it returns false'. Refute it at one input. -/
def limitWatchesWrong : ChangeSpec := { name := "limitWatches", fn := fun _ => fun
  | [d1, d2, d3] => { results := [.lit (.bool false)], args := [d1, d2, d3] }
  | _ => none }
def LimitWatchesWrongFalsely : Prop := limitWatchesRow.holds Try.pinned (OpenSpec.ofChange limitWatchesWrong)

/-- 'tipstafflaw14.LimitCauses': WHATEVER THE INPUT: true; the input reads as it did. -/
def limitCausesSpec : ChangeSpec := { name := "limitCauses", fn := fun _ => fun
  | [d1, d2, d3] => { results := [.lit (.bool true)], args := [d1, d2, d3] }
  | _ => none }
def limitCausesRow : OpenClaim := { program := "ytlpdoieokgeikaa", sum := "150ce0fcffe550276b2195b18c5c2ae44dfd0dfc680580005559644aaa6838a6", func := "tipstaff/tipstafflaw14.LimitCauses", spec := "limitCauses", unfollowed := true, recurses := true, apart := false }
def LimitCausesSaid : Prop := limitCausesRow.holds Try.pinned (OpenSpec.ofChange limitCausesSpec)

/-- ITS FALSE NEIGHBOUR: 'it returns false'. Refute it at one input. -/
def limitCausesWrong : ChangeSpec := { name := "limitCauses", fn := fun _ => fun
  | [d1, d2, d3] => { results := [.lit (.bool false)], args := [d1, d2, d3] }
  | _ => none }
def LimitCausesWrongFalsely : Prop := limitCausesRow.holds Try.pinned (OpenSpec.ofChange limitCausesWrong)

/-- 'tipstafflaw14.LimitJumps': WHATEVER THE INPUT: true; the input reads as it did. -/
def limitJumpsSpec : ChangeSpec := { name := "limitJumps", fn := fun _ => fun
  | [d] => { results := [.lit (.bool true)], args := [d] }
  | _ => none }
def limitJumpsRow : OpenClaim := { program := "ytlpdoieokgeikaa", sum := "150ce0fcffe550276b2195b18c5c2ae44dfd0dfc680580005559644aaa6838a6", func := "tipstaff/tipstafflaw14.LimitJumps", spec := "limitJumps", unfollowed := true, recurses := true, apart := false }
def LimitJumpsSaid : Prop := limitJumpsRow.holds Try.pinned (OpenSpec.ofChange limitJumpsSpec)

/-- ITS FALSE NEIGHBOUR: 'it returns false'. Refute it at one input. -/
def limitJumpsWrong : ChangeSpec := { name := "limitJumps", fn := fun _ => fun
  | [d] => { results := [.lit (.bool false)], args := [d] }
  | _ => none }
def LimitJumpsWrongFalsely : Prop := limitJumpsRow.holds Try.pinned (OpenSpec.ofChange limitJumpsWrong)

/-- 'tipstafflaw14.LimitKnown': WHATEVER THE INPUT: true; the input reads as it did. -/
def limitKnownSpec : ChangeSpec := { name := "limitKnown", fn := fun _ => fun
  | [] => { results := [.lit (.bool true)], args := [] }
  | _ => none }
def limitKnownRow : OpenClaim := { program := "ytlpdoieokgeikaa", sum := "150ce0fcffe550276b2195b18c5c2ae44dfd0dfc680580005559644aaa6838a6", func := "tipstaff/tipstafflaw14.LimitKnown", spec := "limitKnown", unfollowed := true, recurses := true, apart := false }
def LimitKnownSaid : Prop := limitKnownRow.holds Try.pinned (OpenSpec.ofChange limitKnownSpec)

/-- ITS FALSE NEIGHBOUR: 'it returns false'. Refute it at one input. -/
def limitKnownWrong : ChangeSpec := { name := "limitKnown", fn := fun _ => fun
  | [] => { results := [.lit (.bool false)], args := [] }
  | _ => none }
def LimitKnownWrongFalsely : Prop := limitKnownRow.holds Try.pinned (OpenSpec.ofChange limitKnownWrong)

/-- 'tipstafflaw14.LimitFirst': WHATEVER THE INPUT: true; the input reads as it did. -/
def limitFirstSpec : ChangeSpec := { name := "limitFirst", fn := fun _ => fun
  | [d] => { results := [.lit (.bool true)], args := [d] }
  | _ => none }
def limitFirstRow : OpenClaim := { program := "ytlpdoieokgeikaa", sum := "150ce0fcffe550276b2195b18c5c2ae44dfd0dfc680580005559644aaa6838a6", func := "tipstaff/tipstafflaw14.LimitFirst", spec := "limitFirst", unfollowed := true, recurses := true, apart := false }
def LimitFirstSaid : Prop := limitFirstRow.holds Try.pinned (OpenSpec.ofChange limitFirstSpec)

/-- ITS FALSE NEIGHBOUR: 'it returns false'. Refute it at one input. -/
def limitFirstWrong : ChangeSpec := { name := "limitFirst", fn := fun _ => fun
  | [d] => { results := [.lit (.bool false)], args := [d] }
  | _ => none }
def LimitFirstWrongFalsely : Prop := limitFirstRow.holds Try.pinned (OpenSpec.ofChange limitFirstWrong)

/-- 'tipstafflaw14.LimitMore': WHATEVER THE INPUT: true; the input reads as it did. -/
def limitMoreSpec : ChangeSpec := { name := "limitMore", fn := fun _ => fun
  | [d1, d2, d3, d4, d5] => { results := [.lit (.bool true)], args := [d1, d2, d3, d4, d5] }
  | _ => none }
def limitMoreRow : OpenClaim := { program := "ytlpdoieokgeikaa", sum := "150ce0fcffe550276b2195b18c5c2ae44dfd0dfc680580005559644aaa6838a6", func := "tipstaff/tipstafflaw14.LimitMore", spec := "limitMore", unfollowed := true, recurses := true, apart := false }
def LimitMoreSaid : Prop := limitMoreRow.holds Try.pinned (OpenSpec.ofChange limitMoreSpec)

/-- ITS FALSE NEIGHBOUR: 'it returns false'. Refute it at one input. -/
def limitMoreWrong : ChangeSpec := { name := "limitMore", fn := fun _ => fun
  | [d1, d2, d3, d4, d5] => { results := [.lit (.bool false)], args := [d1, d2, d3, d4, d5] }
  | _ => none }
def LimitMoreWrongFalsely : Prop := limitMoreRow.holds Try.pinned (OpenSpec.ofChange limitMoreWrong)

/-- 'tipstafflaw14.LimitParts': WHATEVER THE INPUT: true; the input reads as it did. -/
def limitPartsSpec : ChangeSpec := { name := "limitParts", fn := fun _ => fun
  | [d1, d2] => { results := [.lit (.bool true)], args := [d1, d2] }
  | _ => none }
def limitPartsRow : OpenClaim := { program := "ytlpdoieokgeikaa", sum := "150ce0fcffe550276b2195b18c5c2ae44dfd0dfc680580005559644aaa6838a6", func := "tipstaff/tipstafflaw14.LimitParts", spec := "limitParts", unfollowed := true, recurses := true, apart := false }
def LimitPartsSaid : Prop := limitPartsRow.holds Try.pinned (OpenSpec.ofChange limitPartsSpec)

/-- ITS FALSE NEIGHBOUR: 'it returns false'. Refute it at one input. -/
def limitPartsWrong : ChangeSpec := { name := "limitParts", fn := fun _ => fun
  | [d1, d2] => { results := [.lit (.bool false)], args := [d1, d2] }
  | _ => none }
def LimitPartsWrongFalsely : Prop := limitPartsRow.holds Try.pinned (OpenSpec.ofChange limitPartsWrong)

/- THE SECOND FORM. 'bulk': how many values and letters a reading holds, each counted each time it is reached (what is shared counts as often as it is met; a slice's spare places count too). A statement '..UptoSaid' is the law's where the arguments, and the package variables that the reading takes, are together of bulk at most 1048576: NARROWER than '..Said'. Prove '..Said' where nothing that the law and all that it calls make is longer than what came in: it says more and counts as full. Else prove '..UptoSaid'. A law counts once. -/
mutual
def uptoBulk {H : Type} : DataW H → Nat
  | .lit (.string bytes) => bytes.length + 1
  | .lit _ => 1
  | .nil => 1
  | .ptr d => uptoBulk d + 1
  | .slice elems spare => uptoBulkAll elems + uptoBulkAll spare + 1
  | .agg parts => uptoBulkAll parts + 1
  | .iface _ d => uptoBulk d + 1
  | .map entries => uptoBulkEntries entries + 1
  | .held _ => 1
def uptoBulkAll {H : Type} : List (DataW H) → Nat
  | [] => 0
  | d :: r => uptoBulk d + uptoBulkAll r
def uptoBulkEntries {H : Type} : List (Lit × DataW H) → Nat
  | [] => 0
  | x :: r => uptoBulkEntry x + uptoBulkEntries r
def uptoBulkEntry {H : Type} : Lit × DataW H → Nat
  | (.string bytes, d) => bytes.length + uptoBulk d + 1
  | (_, d) => uptoBulk d + 1
 end
def uptoSmall : (H : Type) → List (DataW H) → Bool := fun _ ds => decide (uptoBulkAll ds ≤ 1048576)
def OpenSpec.upto (s : _root_.Go.ChangeSpec) : _root_.Go.OpenSpec := { _root_.Go.OpenSpec.ofChange s with cond := some uptoSmall }

/-- 'tipstafflaw14.LimitWatches', WHERE WHAT IT READS IS OF BULK AT MOST 1048576: true; the input reads as it did. -/
def limitWatchesUptoRow : OpenClaim := { program := "ytlpdoieokgeikaa", sum := "150ce0fcffe550276b2195b18c5c2ae44dfd0dfc680580005559644aaa6838a6", func := "tipstaff/tipstafflaw14.LimitWatches", spec := "limitWatches", unfollowed := true, recurses := true, apart := false, narrowed := true }
def LimitWatchesUptoSaid : Prop := limitWatchesUptoRow.holds Try.pinned (OpenSpec.upto limitWatchesSpec)

/-- 'tipstafflaw14.LimitCauses', WHERE WHAT IT READS IS OF BULK AT MOST 1048576: true; the input reads as it did. -/
def limitCausesUptoRow : OpenClaim := { program := "ytlpdoieokgeikaa", sum := "150ce0fcffe550276b2195b18c5c2ae44dfd0dfc680580005559644aaa6838a6", func := "tipstaff/tipstafflaw14.LimitCauses", spec := "limitCauses", unfollowed := true, recurses := true, apart := false, narrowed := true }
def LimitCausesUptoSaid : Prop := limitCausesUptoRow.holds Try.pinned (OpenSpec.upto limitCausesSpec)

/-- 'tipstafflaw14.LimitJumps', WHERE WHAT IT READS IS OF BULK AT MOST 1048576: true; the input reads as it did. -/
def limitJumpsUptoRow : OpenClaim := { program := "ytlpdoieokgeikaa", sum := "150ce0fcffe550276b2195b18c5c2ae44dfd0dfc680580005559644aaa6838a6", func := "tipstaff/tipstafflaw14.LimitJumps", spec := "limitJumps", unfollowed := true, recurses := true, apart := false, narrowed := true }
def LimitJumpsUptoSaid : Prop := limitJumpsUptoRow.holds Try.pinned (OpenSpec.upto limitJumpsSpec)

/-- 'tipstafflaw14.LimitKnown', WHERE WHAT IT READS IS OF BULK AT MOST 1048576: true; the input reads as it did. -/
def limitKnownUptoRow : OpenClaim := { program := "ytlpdoieokgeikaa", sum := "150ce0fcffe550276b2195b18c5c2ae44dfd0dfc680580005559644aaa6838a6", func := "tipstaff/tipstafflaw14.LimitKnown", spec := "limitKnown", unfollowed := true, recurses := true, apart := false, narrowed := true }
def LimitKnownUptoSaid : Prop := limitKnownUptoRow.holds Try.pinned (OpenSpec.upto limitKnownSpec)

/-- 'tipstafflaw14.LimitFirst', WHERE WHAT IT READS IS OF BULK AT MOST 1048576: true; the input reads as it did. -/
def limitFirstUptoRow : OpenClaim := { program := "ytlpdoieokgeikaa", sum := "150ce0fcffe550276b2195b18c5c2ae44dfd0dfc680580005559644aaa6838a6", func := "tipstaff/tipstafflaw14.LimitFirst", spec := "limitFirst", unfollowed := true, recurses := true, apart := false, narrowed := true }
def LimitFirstUptoSaid : Prop := limitFirstUptoRow.holds Try.pinned (OpenSpec.upto limitFirstSpec)

/-- 'tipstafflaw14.LimitMore', WHERE WHAT IT READS IS OF BULK AT MOST 1048576: true; the input reads as it did. -/
def limitMoreUptoRow : OpenClaim := { program := "ytlpdoieokgeikaa", sum := "150ce0fcffe550276b2195b18c5c2ae44dfd0dfc680580005559644aaa6838a6", func := "tipstaff/tipstafflaw14.LimitMore", spec := "limitMore", unfollowed := true, recurses := true, apart := false, narrowed := true }
def LimitMoreUptoSaid : Prop := limitMoreUptoRow.holds Try.pinned (OpenSpec.upto limitMoreSpec)

/-- 'tipstafflaw14.LimitParts', WHERE WHAT IT READS IS OF BULK AT MOST 1048576: true; the input reads as it did. -/
def limitPartsUptoRow : OpenClaim := { program := "ytlpdoieokgeikaa", sum := "150ce0fcffe550276b2195b18c5c2ae44dfd0dfc680580005559644aaa6838a6", func := "tipstaff/tipstafflaw14.LimitParts", spec := "limitParts", unfollowed := true, recurses := true, apart := false, narrowed := true }
def LimitPartsUptoSaid : Prop := limitPartsUptoRow.holds Try.pinned (OpenSpec.upto limitPartsSpec)

end Rows
end Go.Proofs.Ytlpdoieokgeikaa
