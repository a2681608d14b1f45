/-
  NARROWER THAN 'FOR EVERY INPUT', by the rows' own cells (each row's printed sentence says how): ReportParts: laid · ReportVisits: laid · ReportCounts: laid · ReportSpells: laid · ReportKnown: laid · ReportSums: laid.
  DERIVED. THE GIVEN ROWS OF THIS SEAT. 6 by the template 'for every input the law returns true; each argument reads behind the call as it read before'; 0 by the template 'total and deterministic' (their statements: YtenlokaaloenmaaDoorTotals.lean).
  GIVEN WITH THE SEED: the statements are not yours to turn. If you find one false, say at which input.
  Laid BY PROGRAM, IN A SANDBOX (cutbox-rows.mjs): the forced cells as the released guide's own fill.sh prints them over the translation 4a608124535b8a9e… (all of the seat's roots in one cut). By AI agents, Wed Nov 11 2026. No macro, syntax, notation, axiom, sorry.
-/
import Derived.Test.YtenlokaaloenmaaDoorChecked
import GoSem.Claim
import GoSem.ClaimJoined
import GoSem.ClaimMapViews
import Derived.JoinedTies
import Derived.KernelRfl
namespace Go.Proofs.YtenlokaaloenmaaDoor
/- THE CELL 'sum', in the pinned program and in every row, IS THE sha256 OF THE DUMP (.gsa) THAT YtenlokaaloenmaaDoorProg.lean LOADS. Nothing in Lean hashes anything: it is a label: what it is worth is what the hold of that sum in a sandbox is worth. -/
noncomputable def Tryd.pinned : Pinned := { name := "ytenlokaaloenmaadoor", sum := "4a608124535b8a9ee5f817623e591a7567987af7ac7cae1b8340b079f1f2019d", checked := Tryd.checked }
namespace Rows
def none {H : Type} : Left H := { results := [], args := [] }

/- WHAT THE LISTED PACKAGE-LEVEL VARIABLES READ AS WHEN THE CALL BEGINS. Each datum BY PROGRAM (the guide's laid-datum.mjs) off the statement by which the dump's own 'gosem.cut.vars' lays the variable. In a bare row this is a premise. The card (YtenlokaaloenmaaDoorCards.lean) ties it to the program's text. -/
def laid_math_bits_deBruijn64tab {H : Type} : DataW H := .agg [.lit (.int .u8 0), .lit (.int .u8 1), .lit (.int .u8 56), .lit (.int .u8 2), .lit (.int .u8 57), .lit (.int .u8 49), .lit (.int .u8 28), .lit (.int .u8 3), .lit (.int .u8 61), .lit (.int .u8 58), .lit (.int .u8 42), .lit (.int .u8 50), .lit (.int .u8 38), .lit (.int .u8 29), .lit (.int .u8 17), .lit (.int .u8 4), .lit (.int .u8 62), .lit (.int .u8 47), .lit (.int .u8 59), .lit (.int .u8 36), .lit (.int .u8 45), .lit (.int .u8 43), .lit (.int .u8 51), .lit (.int .u8 22), .lit (.int .u8 53), .lit (.int .u8 39), .lit (.int .u8 33), .lit (.int .u8 30), .lit (.int .u8 24), .lit (.int .u8 18), .lit (.int .u8 12), .lit (.int .u8 5), .lit (.int .u8 63), .lit (.int .u8 55), .lit (.int .u8 48), .lit (.int .u8 27), .lit (.int .u8 60), .lit (.int .u8 41), .lit (.int .u8 37), .lit (.int .u8 16), .lit (.int .u8 46), .lit (.int .u8 35), .lit (.int .u8 44), .lit (.int .u8 21), .lit (.int .u8 52), .lit (.int .u8 32), .lit (.int .u8 23), .lit (.int .u8 11), .lit (.int .u8 54), .lit (.int .u8 26), .lit (.int .u8 40), .lit (.int .u8 15), .lit (.int .u8 34), .lit (.int .u8 20), .lit (.int .u8 31), .lit (.int .u8 10), .lit (.int .u8 25), .lit (.int .u8 14), .lit (.int .u8 19), .lit (.int .u8 9), .lit (.int .u8 13), .lit (.int .u8 8), .lit (.int .u8 7), .lit (.int .u8 6)]

/-- 'tipstafflaw43.ReportParts': WHATEVER THE INPUT: true; the input reads as it did. -/
def reportPartsSpec : ChangeSpec := { name := "reportParts", fn := fun _ => fun
  | [d1, d2, d3, d4] => { results := [.lit (.bool true)], args := [d1, d2, d3, d4] }
  | _ => none }
def reportPartsRow : OpenClaim := { program := "ytenlokaaloenmaadoor", sum := "4a608124535b8a9ee5f817623e591a7567987af7ac7cae1b8340b079f1f2019d", func := "tipstaff/tipstafflaw43.ReportParts", spec := "reportParts", unfollowed := true, recurses := true, named := ["math/bits.deBruijn64tab"], apart := false, laid := [("math/bits.deBruijn64tab", laid_math_bits_deBruijn64tab)] }
def ReportPartsSaid : Prop := reportPartsRow.holds Tryd.pinned (OpenSpec.ofChange reportPartsSpec)

/-- ITS FALSE NEIGHBOUR: 'it returns false'. Refute it at one input. -/
def reportPartsWrong : ChangeSpec := { name := "reportParts", fn := fun _ => fun
  | [d1, d2, d3, d4] => { results := [.lit (.bool false)], args := [d1, d2, d3, d4] }
  | _ => none }
def ReportPartsWrongFalsely : Prop := reportPartsRow.holds Tryd.pinned (OpenSpec.ofChange reportPartsWrong)

/-- 'tipstafflaw43.ReportVisits': WHATEVER THE INPUT: true; the input reads as it did. -/
def reportVisitsSpec : ChangeSpec := { name := "reportVisits", fn := fun _ => fun
  | [d1, d2, d3, d4, d5] => { results := [.lit (.bool true)], args := [d1, d2, d3, d4, d5] }
  | _ => none }
def reportVisitsRow : OpenClaim := { program := "ytenlokaaloenmaadoor", sum := "4a608124535b8a9ee5f817623e591a7567987af7ac7cae1b8340b079f1f2019d", func := "tipstaff/tipstafflaw43.ReportVisits", spec := "reportVisits", unfollowed := true, recurses := true, named := ["math/bits.deBruijn64tab"], apart := false, laid := [("math/bits.deBruijn64tab", laid_math_bits_deBruijn64tab)] }
def ReportVisitsSaid : Prop := reportVisitsRow.holds Tryd.pinned (OpenSpec.ofChange reportVisitsSpec)

/-- ITS FALSE NEIGHBOUR: 'it returns false'. Refute it at one input. -/
def reportVisitsWrong : ChangeSpec := { name := "reportVisits", fn := fun _ => fun
  | [d1, d2, d3, d4, d5] => { results := [.lit (.bool false)], args := [d1, d2, d3, d4, d5] }
  | _ => none }
def ReportVisitsWrongFalsely : Prop := reportVisitsRow.holds Tryd.pinned (OpenSpec.ofChange reportVisitsWrong)

/-- 'tipstafflaw43.ReportCounts': WHATEVER THE INPUT: true; the input reads as it did. -/
def reportCountsSpec : ChangeSpec := { name := "reportCounts", fn := fun _ => fun
  | [d1, d2] => { results := [.lit (.bool true)], args := [d1, d2] }
  | _ => none }
def reportCountsRow : OpenClaim := { program := "ytenlokaaloenmaadoor", sum := "4a608124535b8a9ee5f817623e591a7567987af7ac7cae1b8340b079f1f2019d", func := "tipstaff/tipstafflaw43.ReportCounts", spec := "reportCounts", unfollowed := true, recurses := true, named := ["math/bits.deBruijn64tab"], apart := false, laid := [("math/bits.deBruijn64tab", laid_math_bits_deBruijn64tab)] }
def ReportCountsSaid : Prop := reportCountsRow.holds Tryd.pinned (OpenSpec.ofChange reportCountsSpec)

/-- ITS FALSE NEIGHBOUR: 'it returns false'. Refute it at one input. -/
def reportCountsWrong : ChangeSpec := { name := "reportCounts", fn := fun _ => fun
  | [d1, d2] => { results := [.lit (.bool false)], args := [d1, d2] }
  | _ => none }
def ReportCountsWrongFalsely : Prop := reportCountsRow.holds Tryd.pinned (OpenSpec.ofChange reportCountsWrong)

/-- 'tipstafflaw43.ReportSpells': WHATEVER THE INPUT: true; the input reads as it did. -/
def reportSpellsSpec : ChangeSpec := { name := "reportSpells", fn := fun _ => fun
  | [d1, d2, d3, d4, d5] => { results := [.lit (.bool true)], args := [d1, d2, d3, d4, d5] }
  | _ => none }
def reportSpellsRow : OpenClaim := { program := "ytenlokaaloenmaadoor", sum := "4a608124535b8a9ee5f817623e591a7567987af7ac7cae1b8340b079f1f2019d", func := "tipstaff/tipstafflaw43.ReportSpells", spec := "reportSpells", unfollowed := true, recurses := true, named := ["math/bits.deBruijn64tab"], apart := false, laid := [("math/bits.deBruijn64tab", laid_math_bits_deBruijn64tab)] }
def ReportSpellsSaid : Prop := reportSpellsRow.holds Tryd.pinned (OpenSpec.ofChange reportSpellsSpec)

/-- ITS FALSE NEIGHBOUR: 'it returns false'. Refute it at one input. -/
def reportSpellsWrong : ChangeSpec := { name := "reportSpells", fn := fun _ => fun
  | [d1, d2, d3, d4, d5] => { results := [.lit (.bool false)], args := [d1, d2, d3, d4, d5] }
  | _ => none }
def ReportSpellsWrongFalsely : Prop := reportSpellsRow.holds Tryd.pinned (OpenSpec.ofChange reportSpellsWrong)

/-- 'tipstafflaw43.ReportKnown': WHATEVER THE INPUT: true; the input reads as it did. -/
def reportKnownSpec : ChangeSpec := { name := "reportKnown", fn := fun _ => fun
  | [] => { results := [.lit (.bool true)], args := [] }
  | _ => none }
def reportKnownRow : OpenClaim := { program := "ytenlokaaloenmaadoor", sum := "4a608124535b8a9ee5f817623e591a7567987af7ac7cae1b8340b079f1f2019d", func := "tipstaff/tipstafflaw43.ReportKnown", spec := "reportKnown", unfollowed := true, recurses := true, named := ["math/bits.deBruijn64tab"], apart := false, laid := [("math/bits.deBruijn64tab", laid_math_bits_deBruijn64tab)] }
def ReportKnownSaid : Prop := reportKnownRow.holds Tryd.pinned (OpenSpec.ofChange reportKnownSpec)

/-- ITS FALSE NEIGHBOUR: 'it returns false'. Refute it at one input. -/
def reportKnownWrong : ChangeSpec := { name := "reportKnown", fn := fun _ => fun
  | [] => { results := [.lit (.bool false)], args := [] }
  | _ => none }
def ReportKnownWrongFalsely : Prop := reportKnownRow.holds Tryd.pinned (OpenSpec.ofChange reportKnownWrong)

/-- 'tipstafflaw43.ReportSums': WHATEVER THE INPUT: true; the input reads as it did. -/
def reportSumsSpec : ChangeSpec := { name := "reportSums", fn := fun _ => fun
  | [d1, d2, d3] => { results := [.lit (.bool true)], args := [d1, d2, d3] }
  | _ => none }
def reportSumsRow : OpenClaim := { program := "ytenlokaaloenmaadoor", sum := "4a608124535b8a9ee5f817623e591a7567987af7ac7cae1b8340b079f1f2019d", func := "tipstaff/tipstafflaw43.ReportSums", spec := "reportSums", unfollowed := true, recurses := true, named := ["math/bits.deBruijn64tab"], apart := false, laid := [("math/bits.deBruijn64tab", laid_math_bits_deBruijn64tab)] }
def ReportSumsSaid : Prop := reportSumsRow.holds Tryd.pinned (OpenSpec.ofChange reportSumsSpec)

/-- ITS FALSE NEIGHBOUR: 'it returns false'. Refute it at one input. -/
def reportSumsWrong : ChangeSpec := { name := "reportSums", fn := fun _ => fun
  | [d1, d2, d3] => { results := [.lit (.bool false)], args := [d1, d2, d3] }
  | _ => none }
def ReportSumsWrongFalsely : Prop := reportSumsRow.holds Tryd.pinned (OpenSpec.ofChange reportSumsWrong)

/- THE SECOND FORM. 'bulk': how many values and letters a reading holds, each counted each time it is reached (what is shared counts as often as it is met; a slice's spare places count too). A statement '..UptoSaid' is the law's where the arguments, and the package variables that the reading takes, are together of bulk at most 1048576: NARROWER than '..Said'. Prove '..Said' where nothing that the law and all that it calls make is longer than what came in: it says more and counts as full. Else prove '..UptoSaid'. A law counts once. -/
mutual
def uptoBulk {H : Type} : DataW H → Nat
  | .lit (.string bytes) => bytes.length + 1
  | .lit _ => 1
  | .nil => 1
  | .ptr d => uptoBulk d + 1
  | .slice elems spare => uptoBulkAll elems + uptoBulkAll spare + 1
  | .agg parts => uptoBulkAll parts + 1
  | .iface _ d => uptoBulk d + 1
  | .map entries => uptoBulkEntries entries + 1
  | .held _ => 1
def uptoBulkAll {H : Type} : List (DataW H) → Nat
  | [] => 0
  | d :: r => uptoBulk d + uptoBulkAll r
def uptoBulkEntries {H : Type} : List (Lit × DataW H) → Nat
  | [] => 0
  | x :: r => uptoBulkEntry x + uptoBulkEntries r
def uptoBulkEntry {H : Type} : Lit × DataW H → Nat
  | (.string bytes, d) => bytes.length + uptoBulk d + 1
  | (_, d) => uptoBulk d + 1
 end
def uptoSmall : (H : Type) → List (DataW H) → Bool := fun _ ds => decide (uptoBulkAll ds ≤ 1048576)
def OpenSpec.upto (s : _root_.Go.ChangeSpec) : _root_.Go.OpenSpec := { _root_.Go.OpenSpec.ofChange s with cond := some uptoSmall }

/-- 'tipstafflaw43.ReportParts', WHERE WHAT IT READS IS OF BULK AT MOST 1048576: true; the input reads as it did. -/
def reportPartsUptoRow : OpenClaim := { program := "ytenlokaaloenmaadoor", sum := "4a608124535b8a9ee5f817623e591a7567987af7ac7cae1b8340b079f1f2019d", func := "tipstaff/tipstafflaw43.ReportParts", spec := "reportParts", unfollowed := true, recurses := true, named := ["math/bits.deBruijn64tab"], apart := false, laid := [("math/bits.deBruijn64tab", laid_math_bits_deBruijn64tab)], narrowed := true }
def ReportPartsUptoSaid : Prop := reportPartsUptoRow.holds Tryd.pinned (OpenSpec.upto reportPartsSpec)

/-- 'tipstafflaw43.ReportVisits', WHERE WHAT IT READS IS OF BULK AT MOST 1048576: true; the input reads as it did. -/
def reportVisitsUptoRow : OpenClaim := { program := "ytenlokaaloenmaadoor", sum := "4a608124535b8a9ee5f817623e591a7567987af7ac7cae1b8340b079f1f2019d", func := "tipstaff/tipstafflaw43.ReportVisits", spec := "reportVisits", unfollowed := true, recurses := true, named := ["math/bits.deBruijn64tab"], apart := false, laid := [("math/bits.deBruijn64tab", laid_math_bits_deBruijn64tab)], narrowed := true }
def ReportVisitsUptoSaid : Prop := reportVisitsUptoRow.holds Tryd.pinned (OpenSpec.upto reportVisitsSpec)

/-- 'tipstafflaw43.ReportCounts', WHERE WHAT IT READS IS OF BULK AT MOST 1048576: true; the input reads as it did. -/
def reportCountsUptoRow : OpenClaim := { program := "ytenlokaaloenmaadoor", sum := "4a608124535b8a9ee5f817623e591a7567987af7ac7cae1b8340b079f1f2019d", func := "tipstaff/tipstafflaw43.ReportCounts", spec := "reportCounts", unfollowed := true, recurses := true, named := ["math/bits.deBruijn64tab"], apart := false, laid := [("math/bits.deBruijn64tab", laid_math_bits_deBruijn64tab)], narrowed := true }
def ReportCountsUptoSaid : Prop := reportCountsUptoRow.holds Tryd.pinned (OpenSpec.upto reportCountsSpec)

/-- 'tipstafflaw43.ReportSpells', WHERE WHAT IT READS IS OF BULK AT MOST 1048576: true; the input reads as it did. -/
def reportSpellsUptoRow : OpenClaim := { program := "ytenlokaaloenmaadoor", sum := "4a608124535b8a9ee5f817623e591a7567987af7ac7cae1b8340b079f1f2019d", func := "tipstaff/tipstafflaw43.ReportSpells", spec := "reportSpells", unfollowed := true, recurses := true, named := ["math/bits.deBruijn64tab"], apart := false, laid := [("math/bits.deBruijn64tab", laid_math_bits_deBruijn64tab)], narrowed := true }
def ReportSpellsUptoSaid : Prop := reportSpellsUptoRow.holds Tryd.pinned (OpenSpec.upto reportSpellsSpec)

/-- 'tipstafflaw43.ReportKnown', WHERE WHAT IT READS IS OF BULK AT MOST 1048576: true; the input reads as it did. -/
def reportKnownUptoRow : OpenClaim := { program := "ytenlokaaloenmaadoor", sum := "4a608124535b8a9ee5f817623e591a7567987af7ac7cae1b8340b079f1f2019d", func := "tipstaff/tipstafflaw43.ReportKnown", spec := "reportKnown", unfollowed := true, recurses := true, named := ["math/bits.deBruijn64tab"], apart := false, laid := [("math/bits.deBruijn64tab", laid_math_bits_deBruijn64tab)], narrowed := true }
def ReportKnownUptoSaid : Prop := reportKnownUptoRow.holds Tryd.pinned (OpenSpec.upto reportKnownSpec)

/-- 'tipstafflaw43.ReportSums', WHERE WHAT IT READS IS OF BULK AT MOST 1048576: true; the input reads as it did. -/
def reportSumsUptoRow : OpenClaim := { program := "ytenlokaaloenmaadoor", sum := "4a608124535b8a9ee5f817623e591a7567987af7ac7cae1b8340b079f1f2019d", func := "tipstaff/tipstafflaw43.ReportSums", spec := "reportSums", unfollowed := true, recurses := true, named := ["math/bits.deBruijn64tab"], apart := false, laid := [("math/bits.deBruijn64tab", laid_math_bits_deBruijn64tab)], narrowed := true }
def ReportSumsUptoSaid : Prop := reportSumsUptoRow.holds Tryd.pinned (OpenSpec.upto reportSumsSpec)

end Rows
end Go.Proofs.YtenlokaaloenmaaDoor
