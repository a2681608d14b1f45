/-
  NARROWER THAN 'FOR EVERY INPUT', by the rows' own cells (each row's printed sentence says how): CrcTells: laid · CrcParts: laid · CrcSums: laid · CrcFixes: laid · CrcTexts: laid · CrcKnown: laid · CrcSeals: laid.
  DERIVED. THE GIVEN ROWS OF THIS SEAT. 7 by the template 'for every input the law returns true; each argument reads behind the call as it read before'; 0 by the template 'total and deterministic' (their statements: YtghcckbdfmpgjaaDoorTotals.lean).
  GIVEN WITH THE SEED: the statements are not yours to turn. If you find one false, say at which input.
  Laid BY PROGRAM, IN A SANDBOX (cutbox-rows.mjs): the forced cells as the released guide's own fill.sh prints them over the translation 95d9212c408fc8c8… (all of the seat's roots in one cut). By AI agents, Wed Nov 11 2026. No macro, syntax, notation, axiom, sorry.
-/
import Derived.Test.YtghcckbdfmpgjaaDoorChecked
import GoSem.Claim
import GoSem.ClaimJoined
import GoSem.ClaimMapViews
import Derived.JoinedTies
import Derived.KernelRfl
namespace Go.Proofs.YtghcckbdfmpgjaaDoor
/- THE CELL 'sum', in the pinned program and in every row, IS THE sha256 OF THE DUMP (.gsa) THAT YtghcckbdfmpgjaaDoorProg.lean LOADS. Nothing in Lean hashes anything: it is a label: what it is worth is what the hold of that sum in a sandbox is worth. -/
noncomputable def Tryd.pinned : Pinned := { name := "ytghcckbdfmpgjaadoor", sum := "95d9212c408fc8c88eebf7fffaa4991d22cb2dc372a930d2449c8cb5ee8eae29", checked := Tryd.checked }
namespace Rows
def none {H : Type} : Left H := { results := [], args := [] }

/- WHAT THE LISTED PACKAGE-LEVEL VARIABLES READ AS WHEN THE CALL BEGINS. Each datum BY PROGRAM (the guide's laid-datum.mjs) off the statement by which the dump's own 'gosem.cut.vars' lays the variable. In a bare row this is a premise. The card (YtghcckbdfmpgjaaDoorCards.lean) ties it to the program's text. -/
def laid_tipstaff_crc_halves {H : Type} : DataW H := .agg [.lit (.int .u8 0), .lit (.int .u8 7), .lit (.int .u8 14), .lit (.int .u8 9), .lit (.int .u8 28), .lit (.int .u8 27), .lit (.int .u8 18), .lit (.int .u8 21), .lit (.int .u8 56), .lit (.int .u8 63), .lit (.int .u8 54), .lit (.int .u8 49), .lit (.int .u8 36), .lit (.int .u8 35), .lit (.int .u8 42), .lit (.int .u8 45)]

/-- 'tipstafflaw04.CrcTells': WHATEVER THE INPUT: true; the input reads as it did. -/
def crcTellsSpec : ChangeSpec := { name := "crcTells", fn := fun _ => fun
  | [d1, d2, d3] => { results := [.lit (.bool true)], args := [d1, d2, d3] }
  | _ => none }
def crcTellsRow : OpenClaim := { program := "ytghcckbdfmpgjaadoor", sum := "95d9212c408fc8c88eebf7fffaa4991d22cb2dc372a930d2449c8cb5ee8eae29", func := "tipstaff/tipstafflaw04.CrcTells", spec := "crcTells", named := ["tipstaff/crc.halves"], apart := false, laid := [("tipstaff/crc.halves", laid_tipstaff_crc_halves)] }
def CrcTellsSaid : Prop := crcTellsRow.holds Tryd.pinned (OpenSpec.ofChange crcTellsSpec)

/-- ITS FALSE NEIGHBOUR: 'it returns false'. Refute it at one input. -/
def crcTellsWrong : ChangeSpec := { name := "crcTells", fn := fun _ => fun
  | [d1, d2, d3] => { results := [.lit (.bool false)], args := [d1, d2, d3] }
  | _ => none }
def CrcTellsWrongFalsely : Prop := crcTellsRow.holds Tryd.pinned (OpenSpec.ofChange crcTellsWrong)

/-- 'tipstafflaw04.CrcParts': WHATEVER THE INPUT: true; the input reads as it did. -/
def crcPartsSpec : ChangeSpec := { name := "crcParts", fn := fun _ => fun
  | [d1, d2] => { results := [.lit (.bool true)], args := [d1, d2] }
  | _ => none }
def crcPartsRow : OpenClaim := { program := "ytghcckbdfmpgjaadoor", sum := "95d9212c408fc8c88eebf7fffaa4991d22cb2dc372a930d2449c8cb5ee8eae29", func := "tipstaff/tipstafflaw04.CrcParts", spec := "crcParts", named := ["tipstaff/crc.halves"], apart := false, laid := [("tipstaff/crc.halves", laid_tipstaff_crc_halves)] }
def CrcPartsSaid : Prop := crcPartsRow.holds Tryd.pinned (OpenSpec.ofChange crcPartsSpec)

/-- ITS FALSE NEIGHBOUR: 'it returns false'. Refute it at one input. -/
def crcPartsWrong : ChangeSpec := { name := "crcParts", fn := fun _ => fun
  | [d1, d2] => { results := [.lit (.bool false)], args := [d1, d2] }
  | _ => none }
def CrcPartsWrongFalsely : Prop := crcPartsRow.holds Tryd.pinned (OpenSpec.ofChange crcPartsWrong)

/-- 'tipstafflaw04.CrcSums': WHATEVER THE INPUT: true; the input reads as it did. -/
def crcSumsSpec : ChangeSpec := { name := "crcSums", fn := fun _ => fun
  | [d1, d2, d3] => { results := [.lit (.bool true)], args := [d1, d2, d3] }
  | _ => none }
def crcSumsRow : OpenClaim := { program := "ytghcckbdfmpgjaadoor", sum := "95d9212c408fc8c88eebf7fffaa4991d22cb2dc372a930d2449c8cb5ee8eae29", func := "tipstaff/tipstafflaw04.CrcSums", spec := "crcSums", named := ["tipstaff/crc.halves"], apart := false, laid := [("tipstaff/crc.halves", laid_tipstaff_crc_halves)] }
def CrcSumsSaid : Prop := crcSumsRow.holds Tryd.pinned (OpenSpec.ofChange crcSumsSpec)

/-- ITS FALSE NEIGHBOUR: 'it returns false'. Refute it at one input. -/
def crcSumsWrong : ChangeSpec := { name := "crcSums", fn := fun _ => fun
  | [d1, d2, d3] => { results := [.lit (.bool false)], args := [d1, d2, d3] }
  | _ => none }
def CrcSumsWrongFalsely : Prop := crcSumsRow.holds Tryd.pinned (OpenSpec.ofChange crcSumsWrong)

/-- 'tipstafflaw04.CrcFixes': WHATEVER THE INPUT: true; the input reads as it did. -/
def crcFixesSpec : ChangeSpec := { name := "crcFixes", fn := fun _ => fun
  | [d1, d2, d3] => { results := [.lit (.bool true)], args := [d1, d2, d3] }
  | _ => none }
def crcFixesRow : OpenClaim := { program := "ytghcckbdfmpgjaadoor", sum := "95d9212c408fc8c88eebf7fffaa4991d22cb2dc372a930d2449c8cb5ee8eae29", func := "tipstaff/tipstafflaw04.CrcFixes", spec := "crcFixes", named := ["tipstaff/crc.halves"], apart := false, laid := [("tipstaff/crc.halves", laid_tipstaff_crc_halves)] }
def CrcFixesSaid : Prop := crcFixesRow.holds Tryd.pinned (OpenSpec.ofChange crcFixesSpec)

/-- ITS FALSE NEIGHBOUR: 'it returns false'. Refute it at one input. -/
def crcFixesWrong : ChangeSpec := { name := "crcFixes", fn := fun _ => fun
  | [d1, d2, d3] => { results := [.lit (.bool false)], args := [d1, d2, d3] }
  | _ => none }
def CrcFixesWrongFalsely : Prop := crcFixesRow.holds Tryd.pinned (OpenSpec.ofChange crcFixesWrong)

/-- 'tipstafflaw04.CrcTexts': WHATEVER THE INPUT: true; the input reads as it did. -/
def crcTextsSpec : ChangeSpec := { name := "crcTexts", fn := fun _ => fun
  | [d1, d2] => { results := [.lit (.bool true)], args := [d1, d2] }
  | _ => none }
def crcTextsRow : OpenClaim := { program := "ytghcckbdfmpgjaadoor", sum := "95d9212c408fc8c88eebf7fffaa4991d22cb2dc372a930d2449c8cb5ee8eae29", func := "tipstaff/tipstafflaw04.CrcTexts", spec := "crcTexts", named := ["tipstaff/crc.halves"], apart := false, laid := [("tipstaff/crc.halves", laid_tipstaff_crc_halves)] }
def CrcTextsSaid : Prop := crcTextsRow.holds Tryd.pinned (OpenSpec.ofChange crcTextsSpec)

/-- ITS FALSE NEIGHBOUR: 'it returns false'. Refute it at one input. -/
def crcTextsWrong : ChangeSpec := { name := "crcTexts", fn := fun _ => fun
  | [d1, d2] => { results := [.lit (.bool false)], args := [d1, d2] }
  | _ => none }
def CrcTextsWrongFalsely : Prop := crcTextsRow.holds Tryd.pinned (OpenSpec.ofChange crcTextsWrong)

/-- 'tipstafflaw04.CrcKnown': WHATEVER THE INPUT: true; the input reads as it did. -/
def crcKnownSpec : ChangeSpec := { name := "crcKnown", fn := fun _ => fun
  | [] => { results := [.lit (.bool true)], args := [] }
  | _ => none }
def crcKnownRow : OpenClaim := { program := "ytghcckbdfmpgjaadoor", sum := "95d9212c408fc8c88eebf7fffaa4991d22cb2dc372a930d2449c8cb5ee8eae29", func := "tipstaff/tipstafflaw04.CrcKnown", spec := "crcKnown", named := ["tipstaff/crc.halves"], apart := false, laid := [("tipstaff/crc.halves", laid_tipstaff_crc_halves)] }
def CrcKnownSaid : Prop := crcKnownRow.holds Tryd.pinned (OpenSpec.ofChange crcKnownSpec)

/-- ITS FALSE NEIGHBOUR: 'it returns false'. Refute it at one input. -/
def crcKnownWrong : ChangeSpec := { name := "crcKnown", fn := fun _ => fun
  | [] => { results := [.lit (.bool false)], args := [] }
  | _ => none }
def CrcKnownWrongFalsely : Prop := crcKnownRow.holds Tryd.pinned (OpenSpec.ofChange crcKnownWrong)

/-- 'tipstafflaw04.CrcSeals': WHATEVER THE INPUT: true; the input reads as it did. -/
def crcSealsSpec : ChangeSpec := { name := "crcSeals", fn := fun _ => fun
  | [d1, d2, d3] => { results := [.lit (.bool true)], args := [d1, d2, d3] }
  | _ => none }
def crcSealsRow : OpenClaim := { program := "ytghcckbdfmpgjaadoor", sum := "95d9212c408fc8c88eebf7fffaa4991d22cb2dc372a930d2449c8cb5ee8eae29", func := "tipstaff/tipstafflaw04.CrcSeals", spec := "crcSeals", named := ["tipstaff/crc.halves"], apart := false, laid := [("tipstaff/crc.halves", laid_tipstaff_crc_halves)] }
def CrcSealsSaid : Prop := crcSealsRow.holds Tryd.pinned (OpenSpec.ofChange crcSealsSpec)

/-- ITS FALSE NEIGHBOUR: 'it returns false'. Refute it at one input. -/
def crcSealsWrong : ChangeSpec := { name := "crcSeals", fn := fun _ => fun
  | [d1, d2, d3] => { results := [.lit (.bool false)], args := [d1, d2, d3] }
  | _ => none }
def CrcSealsWrongFalsely : Prop := crcSealsRow.holds Tryd.pinned (OpenSpec.ofChange crcSealsWrong)

/- THE SECOND FORM. 'bulk': how many values and letters a reading holds, each counted each time it is reached (what is shared counts as often as it is met; a slice's spare places count too). A statement '..UptoSaid' is the law's where the arguments, and the package variables that the reading takes, are together of bulk at most 1048576: NARROWER than '..Said'. Prove '..Said' where nothing that the law and all that it calls make is longer than what came in: it says more and counts as full. Else prove '..UptoSaid'. A law counts once. -/
mutual
def uptoBulk {H : Type} : DataW H → Nat
  | .lit (.string bytes) => bytes.length + 1
  | .lit _ => 1
  | .nil => 1
  | .ptr d => uptoBulk d + 1
  | .slice elems spare => uptoBulkAll elems + uptoBulkAll spare + 1
  | .agg parts => uptoBulkAll parts + 1
  | .iface _ d => uptoBulk d + 1
  | .map entries => uptoBulkEntries entries + 1
  | .held _ => 1
def uptoBulkAll {H : Type} : List (DataW H) → Nat
  | [] => 0
  | d :: r => uptoBulk d + uptoBulkAll r
def uptoBulkEntries {H : Type} : List (Lit × DataW H) → Nat
  | [] => 0
  | x :: r => uptoBulkEntry x + uptoBulkEntries r
def uptoBulkEntry {H : Type} : Lit × DataW H → Nat
  | (.string bytes, d) => bytes.length + uptoBulk d + 1
  | (_, d) => uptoBulk d + 1
 end
def uptoSmall : (H : Type) → List (DataW H) → Bool := fun _ ds => decide (uptoBulkAll ds ≤ 1048576)
def OpenSpec.upto (s : _root_.Go.ChangeSpec) : _root_.Go.OpenSpec := { _root_.Go.OpenSpec.ofChange s with cond := some uptoSmall }

/-- 'tipstafflaw04.CrcTells', WHERE WHAT IT READS IS OF BULK AT MOST 1048576: true; the input reads as it did. -/
def crcTellsUptoRow : OpenClaim := { program := "ytghcckbdfmpgjaadoor", sum := "95d9212c408fc8c88eebf7fffaa4991d22cb2dc372a930d2449c8cb5ee8eae29", func := "tipstaff/tipstafflaw04.CrcTells", spec := "crcTells", named := ["tipstaff/crc.halves"], apart := false, laid := [("tipstaff/crc.halves", laid_tipstaff_crc_halves)], narrowed := true }
def CrcTellsUptoSaid : Prop := crcTellsUptoRow.holds Tryd.pinned (OpenSpec.upto crcTellsSpec)

/-- 'tipstafflaw04.CrcParts', WHERE WHAT IT READS IS OF BULK AT MOST 1048576: true; the input reads as it did. -/
def crcPartsUptoRow : OpenClaim := { program := "ytghcckbdfmpgjaadoor", sum := "95d9212c408fc8c88eebf7fffaa4991d22cb2dc372a930d2449c8cb5ee8eae29", func := "tipstaff/tipstafflaw04.CrcParts", spec := "crcParts", named := ["tipstaff/crc.halves"], apart := false, laid := [("tipstaff/crc.halves", laid_tipstaff_crc_halves)], narrowed := true }
def CrcPartsUptoSaid : Prop := crcPartsUptoRow.holds Tryd.pinned (OpenSpec.upto crcPartsSpec)

/-- 'tipstafflaw04.CrcSums', WHERE WHAT IT READS IS OF BULK AT MOST 1048576: true; the input reads as it did. -/
def crcSumsUptoRow : OpenClaim := { program := "ytghcckbdfmpgjaadoor", sum := "95d9212c408fc8c88eebf7fffaa4991d22cb2dc372a930d2449c8cb5ee8eae29", func := "tipstaff/tipstafflaw04.CrcSums", spec := "crcSums", named := ["tipstaff/crc.halves"], apart := false, laid := [("tipstaff/crc.halves", laid_tipstaff_crc_halves)], narrowed := true }
def CrcSumsUptoSaid : Prop := crcSumsUptoRow.holds Tryd.pinned (OpenSpec.upto crcSumsSpec)

/-- 'tipstafflaw04.CrcFixes', WHERE WHAT IT READS IS OF BULK AT MOST 1048576: true; the input reads as it did. -/
def crcFixesUptoRow : OpenClaim := { program := "ytghcckbdfmpgjaadoor", sum := "95d9212c408fc8c88eebf7fffaa4991d22cb2dc372a930d2449c8cb5ee8eae29", func := "tipstaff/tipstafflaw04.CrcFixes", spec := "crcFixes", named := ["tipstaff/crc.halves"], apart := false, laid := [("tipstaff/crc.halves", laid_tipstaff_crc_halves)], narrowed := true }
def CrcFixesUptoSaid : Prop := crcFixesUptoRow.holds Tryd.pinned (OpenSpec.upto crcFixesSpec)

/-- 'tipstafflaw04.CrcTexts', WHERE WHAT IT READS IS OF BULK AT MOST 1048576: true; the input reads as it did. -/
def crcTextsUptoRow : OpenClaim := { program := "ytghcckbdfmpgjaadoor", sum := "95d9212c408fc8c88eebf7fffaa4991d22cb2dc372a930d2449c8cb5ee8eae29", func := "tipstaff/tipstafflaw04.CrcTexts", spec := "crcTexts", named := ["tipstaff/crc.halves"], apart := false, laid := [("tipstaff/crc.halves", laid_tipstaff_crc_halves)], narrowed := true }
def CrcTextsUptoSaid : Prop := crcTextsUptoRow.holds Tryd.pinned (OpenSpec.upto crcTextsSpec)

/-- 'tipstafflaw04.CrcKnown', WHERE WHAT IT READS IS OF BULK AT MOST 1048576: true; the input reads as it did. -/
def crcKnownUptoRow : OpenClaim := { program := "ytghcckbdfmpgjaadoor", sum := "95d9212c408fc8c88eebf7fffaa4991d22cb2dc372a930d2449c8cb5ee8eae29", func := "tipstaff/tipstafflaw04.CrcKnown", spec := "crcKnown", named := ["tipstaff/crc.halves"], apart := false, laid := [("tipstaff/crc.halves", laid_tipstaff_crc_halves)], narrowed := true }
def CrcKnownUptoSaid : Prop := crcKnownUptoRow.holds Tryd.pinned (OpenSpec.upto crcKnownSpec)

/-- 'tipstafflaw04.CrcSeals', WHERE WHAT IT READS IS OF BULK AT MOST 1048576: true; the input reads as it did. -/
def crcSealsUptoRow : OpenClaim := { program := "ytghcckbdfmpgjaadoor", sum := "95d9212c408fc8c88eebf7fffaa4991d22cb2dc372a930d2449c8cb5ee8eae29", func := "tipstaff/tipstafflaw04.CrcSeals", spec := "crcSeals", named := ["tipstaff/crc.halves"], apart := false, laid := [("tipstaff/crc.halves", laid_tipstaff_crc_halves)], narrowed := true }
def CrcSealsUptoSaid : Prop := crcSealsUptoRow.holds Tryd.pinned (OpenSpec.upto crcSealsSpec)

end Rows
end Go.Proofs.YtghcckbdfmpgjaaDoor
