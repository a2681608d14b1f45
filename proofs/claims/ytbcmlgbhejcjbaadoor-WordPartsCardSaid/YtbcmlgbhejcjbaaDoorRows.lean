/-
  NARROWER THAN 'FOR EVERY INPUT', by the rows' own cells (each row's printed sentence says how): WordSlots: laid · WordAlone: laid · WordParts: laid · WordSeries: laid · WordMakes: laid · WordBits: laid · WordBack: laid · WordKnown: laid.
  DERIVED. THE GIVEN ROWS OF THIS SEAT. 8 by the template 'for every input the law returns true; each argument reads behind the call as it read before'; 0 by the template 'total and deterministic' (their statements: YtbcmlgbhejcjbaaDoorTotals.lean).
  GIVEN WITH THE SEED: the statements are not yours to turn. If you find one false, say at which input.
  Laid BY PROGRAM, IN A SANDBOX (cutbox-rows.mjs): the forced cells as the released guide's own fill.sh prints them over the translation bd3c0ab89cf8765c… (all of the seat's roots in one cut). By AI agents, Wed Nov 11 2026. No macro, syntax, notation, axiom, sorry.
-/
import Derived.Test.YtbcmlgbhejcjbaaDoorChecked
import GoSem.Claim
import GoSem.ClaimJoined
import GoSem.ClaimMapViews
import Derived.JoinedTies
import Derived.KernelRfl
namespace Go.Proofs.YtbcmlgbhejcjbaaDoor
/- THE CELL 'sum', in the pinned program and in every row, IS THE sha256 OF THE DUMP (.gsa) THAT YtbcmlgbhejcjbaaDoorProg.lean LOADS. Nothing in Lean hashes anything: it is a label: what it is worth is what the hold of that sum in a sandbox is worth. -/
noncomputable def Tryd.pinned : Pinned := { name := "ytbcmlgbhejcjbaadoor", sum := "bd3c0ab89cf8765cdf565a6461b18a897652995b8c4928115d13d9dffe62351c", checked := Tryd.checked }
namespace Rows
def none {H : Type} : Left H := { results := [], args := [] }

/- WHAT THE LISTED PACKAGE-LEVEL VARIABLES READ AS WHEN THE CALL BEGINS. Each datum BY PROGRAM (the guide's laid-datum.mjs) off the statement by which the dump's own 'gosem.cut.vars' lays the variable. In a bare row this is a premise. The card (YtbcmlgbhejcjbaaDoorCards.lean) ties it to the program's text. -/
def laid_tipstaff_word_does {H : Type} : DataW H := .iface "func table" (.agg [.nil, .iface "func" (.lit (.string [116, 105, 112, 115, 116, 97, 102, 102, 47, 119, 111, 114, 100, 46, 100, 111, 101, 115, 36, 49])), .iface "func" (.lit (.string [116, 105, 112, 115, 116, 97, 102, 102, 47, 119, 111, 114, 100, 46, 100, 111, 101, 115, 36, 50])), .iface "func" (.lit (.string [116, 105, 112, 115, 116, 97, 102, 102, 47, 119, 111, 114, 100, 46, 102, 97, 117, 108, 116])), .iface "func" (.lit (.string [116, 105, 112, 115, 116, 97, 102, 102, 47, 119, 111, 114, 100, 46, 102, 97, 117, 108, 116])), .iface "func" (.lit (.string [116, 105, 112, 115, 116, 97, 102, 102, 47, 119, 111, 114, 100, 46, 102, 97, 117, 108, 116])), .iface "func" (.lit (.string [116, 105, 112, 115, 116, 97, 102, 102, 47, 119, 111, 114, 100, 46, 102, 97, 117, 108, 116]))])

/-- 'tipstafflaw33.WordSlots': WHATEVER THE INPUT: true; the input reads as it did. -/
def wordSlotsSpec : ChangeSpec := { name := "wordSlots", fn := fun _ => fun
  | [d1, d2, d3] => { results := [.lit (.bool true)], args := [d1, d2, d3] }
  | _ => none }
def wordSlotsRow : OpenClaim := { program := "ytbcmlgbhejcjbaadoor", sum := "bd3c0ab89cf8765cdf565a6461b18a897652995b8c4928115d13d9dffe62351c", func := "tipstaff/tipstafflaw33.WordSlots", spec := "wordSlots", unfollowed := true, recurses := true, named := ["tipstaff/word.does"], apart := false, laid := [("tipstaff/word.does", laid_tipstaff_word_does)] }
def WordSlotsSaid : Prop := wordSlotsRow.holds Tryd.pinned (OpenSpec.ofChange wordSlotsSpec)

/-- ITS FALSE NEIGHBOUR: 'it returns false'. Refute it at one input. -/
def wordSlotsWrong : ChangeSpec := { name := "wordSlots", fn := fun _ => fun
  | [d1, d2, d3] => { results := [.lit (.bool false)], args := [d1, d2, d3] }
  | _ => none }
def WordSlotsWrongFalsely : Prop := wordSlotsRow.holds Tryd.pinned (OpenSpec.ofChange wordSlotsWrong)

/-- 'tipstafflaw33.WordAlone': WHATEVER THE INPUT: true; the input reads as it did. -/
def wordAloneSpec : ChangeSpec := { name := "wordAlone", fn := fun _ => fun
  | [d1, d2] => { results := [.lit (.bool true)], args := [d1, d2] }
  | _ => none }
def wordAloneRow : OpenClaim := { program := "ytbcmlgbhejcjbaadoor", sum := "bd3c0ab89cf8765cdf565a6461b18a897652995b8c4928115d13d9dffe62351c", func := "tipstaff/tipstafflaw33.WordAlone", spec := "wordAlone", unfollowed := true, recurses := true, named := ["tipstaff/word.does"], apart := false, laid := [("tipstaff/word.does", laid_tipstaff_word_does)] }
def WordAloneSaid : Prop := wordAloneRow.holds Tryd.pinned (OpenSpec.ofChange wordAloneSpec)

/-- ITS FALSE NEIGHBOUR: 'it returns false'. Refute it at one input. -/
def wordAloneWrong : ChangeSpec := { name := "wordAlone", fn := fun _ => fun
  | [d1, d2] => { results := [.lit (.bool false)], args := [d1, d2] }
  | _ => none }
def WordAloneWrongFalsely : Prop := wordAloneRow.holds Tryd.pinned (OpenSpec.ofChange wordAloneWrong)

/-- 'tipstafflaw33.WordParts': WHATEVER THE INPUT: true; the input reads as it did. -/
def wordPartsSpec : ChangeSpec := { name := "wordParts", fn := fun _ => fun
  | [d1, d2] => { results := [.lit (.bool true)], args := [d1, d2] }
  | _ => none }
def wordPartsRow : OpenClaim := { program := "ytbcmlgbhejcjbaadoor", sum := "bd3c0ab89cf8765cdf565a6461b18a897652995b8c4928115d13d9dffe62351c", func := "tipstaff/tipstafflaw33.WordParts", spec := "wordParts", unfollowed := true, recurses := true, named := ["tipstaff/word.does"], apart := false, laid := [("tipstaff/word.does", laid_tipstaff_word_does)] }
def WordPartsSaid : Prop := wordPartsRow.holds Tryd.pinned (OpenSpec.ofChange wordPartsSpec)

/-- ITS FALSE NEIGHBOUR: 'it returns false'. Refute it at one input. -/
def wordPartsWrong : ChangeSpec := { name := "wordParts", fn := fun _ => fun
  | [d1, d2] => { results := [.lit (.bool false)], args := [d1, d2] }
  | _ => none }
def WordPartsWrongFalsely : Prop := wordPartsRow.holds Tryd.pinned (OpenSpec.ofChange wordPartsWrong)

/-- 'tipstafflaw33.WordSeries': WHATEVER THE INPUT: true; the input reads as it did. -/
def wordSeriesSpec : ChangeSpec := { name := "wordSeries", fn := fun _ => fun
  | [d1, d2, d3] => { results := [.lit (.bool true)], args := [d1, d2, d3] }
  | _ => none }
def wordSeriesRow : OpenClaim := { program := "ytbcmlgbhejcjbaadoor", sum := "bd3c0ab89cf8765cdf565a6461b18a897652995b8c4928115d13d9dffe62351c", func := "tipstaff/tipstafflaw33.WordSeries", spec := "wordSeries", unfollowed := true, recurses := true, named := ["tipstaff/word.does"], apart := false, laid := [("tipstaff/word.does", laid_tipstaff_word_does)] }
def WordSeriesSaid : Prop := wordSeriesRow.holds Tryd.pinned (OpenSpec.ofChange wordSeriesSpec)

/-- ITS FALSE NEIGHBOUR: 'it returns false'. Refute it at one input. -/
def wordSeriesWrong : ChangeSpec := { name := "wordSeries", fn := fun _ => fun
  | [d1, d2, d3] => { results := [.lit (.bool false)], args := [d1, d2, d3] }
  | _ => none }
def WordSeriesWrongFalsely : Prop := wordSeriesRow.holds Tryd.pinned (OpenSpec.ofChange wordSeriesWrong)

/-- 'tipstafflaw33.WordMakes': WHATEVER THE INPUT: true; the input reads as it did. -/
def wordMakesSpec : ChangeSpec := { name := "wordMakes", fn := fun _ => fun
  | [d1, d2, d3] => { results := [.lit (.bool true)], args := [d1, d2, d3] }
  | _ => none }
def wordMakesRow : OpenClaim := { program := "ytbcmlgbhejcjbaadoor", sum := "bd3c0ab89cf8765cdf565a6461b18a897652995b8c4928115d13d9dffe62351c", func := "tipstaff/tipstafflaw33.WordMakes", spec := "wordMakes", unfollowed := true, recurses := true, named := ["tipstaff/word.does"], apart := false, laid := [("tipstaff/word.does", laid_tipstaff_word_does)] }
def WordMakesSaid : Prop := wordMakesRow.holds Tryd.pinned (OpenSpec.ofChange wordMakesSpec)

/-- ITS FALSE NEIGHBOUR: 'it returns false'. Refute it at one input. -/
def wordMakesWrong : ChangeSpec := { name := "wordMakes", fn := fun _ => fun
  | [d1, d2, d3] => { results := [.lit (.bool false)], args := [d1, d2, d3] }
  | _ => none }
def WordMakesWrongFalsely : Prop := wordMakesRow.holds Tryd.pinned (OpenSpec.ofChange wordMakesWrong)

/-- 'tipstafflaw33.WordBits': WHATEVER THE INPUT: true; the input reads as it did. -/
def wordBitsSpec : ChangeSpec := { name := "wordBits", fn := fun _ => fun
  | [d1, d2, d3] => { results := [.lit (.bool true)], args := [d1, d2, d3] }
  | _ => none }
def wordBitsRow : OpenClaim := { program := "ytbcmlgbhejcjbaadoor", sum := "bd3c0ab89cf8765cdf565a6461b18a897652995b8c4928115d13d9dffe62351c", func := "tipstaff/tipstafflaw33.WordBits", spec := "wordBits", unfollowed := true, recurses := true, named := ["tipstaff/word.does"], apart := false, laid := [("tipstaff/word.does", laid_tipstaff_word_does)] }
def WordBitsSaid : Prop := wordBitsRow.holds Tryd.pinned (OpenSpec.ofChange wordBitsSpec)

/-- ITS FALSE NEIGHBOUR: 'it returns false'. Refute it at one input. -/
def wordBitsWrong : ChangeSpec := { name := "wordBits", fn := fun _ => fun
  | [d1, d2, d3] => { results := [.lit (.bool false)], args := [d1, d2, d3] }
  | _ => none }
def WordBitsWrongFalsely : Prop := wordBitsRow.holds Tryd.pinned (OpenSpec.ofChange wordBitsWrong)

/-- 'tipstafflaw33.WordBack': WHATEVER THE INPUT: true; the input reads as it did. -/
def wordBackSpec : ChangeSpec := { name := "wordBack", fn := fun _ => fun
  | [d1, d2, d3] => { results := [.lit (.bool true)], args := [d1, d2, d3] }
  | _ => none }
def wordBackRow : OpenClaim := { program := "ytbcmlgbhejcjbaadoor", sum := "bd3c0ab89cf8765cdf565a6461b18a897652995b8c4928115d13d9dffe62351c", func := "tipstaff/tipstafflaw33.WordBack", spec := "wordBack", unfollowed := true, recurses := true, named := ["tipstaff/word.does"], apart := false, laid := [("tipstaff/word.does", laid_tipstaff_word_does)] }
def WordBackSaid : Prop := wordBackRow.holds Tryd.pinned (OpenSpec.ofChange wordBackSpec)

/-- ITS FALSE NEIGHBOUR: 'it returns false'. Refute it at one input. -/
def wordBackWrong : ChangeSpec := { name := "wordBack", fn := fun _ => fun
  | [d1, d2, d3] => { results := [.lit (.bool false)], args := [d1, d2, d3] }
  | _ => none }
def WordBackWrongFalsely : Prop := wordBackRow.holds Tryd.pinned (OpenSpec.ofChange wordBackWrong)

/-- 'tipstafflaw33.WordKnown': WHATEVER THE INPUT: true; the input reads as it did. -/
def wordKnownSpec : ChangeSpec := { name := "wordKnown", fn := fun _ => fun
  | [] => { results := [.lit (.bool true)], args := [] }
  | _ => none }
def wordKnownRow : OpenClaim := { program := "ytbcmlgbhejcjbaadoor", sum := "bd3c0ab89cf8765cdf565a6461b18a897652995b8c4928115d13d9dffe62351c", func := "tipstaff/tipstafflaw33.WordKnown", spec := "wordKnown", unfollowed := true, recurses := true, named := ["tipstaff/word.does"], apart := false, laid := [("tipstaff/word.does", laid_tipstaff_word_does)] }
def WordKnownSaid : Prop := wordKnownRow.holds Tryd.pinned (OpenSpec.ofChange wordKnownSpec)

/-- ITS FALSE NEIGHBOUR: 'it returns false'. Refute it at one input. -/
def wordKnownWrong : ChangeSpec := { name := "wordKnown", fn := fun _ => fun
  | [] => { results := [.lit (.bool false)], args := [] }
  | _ => none }
def WordKnownWrongFalsely : Prop := wordKnownRow.holds Tryd.pinned (OpenSpec.ofChange wordKnownWrong)

/- THE SECOND FORM. 'bulk': how many values and letters a reading holds, each counted each time it is reached (what is shared counts as often as it is met; a slice's spare places count too). A statement '..UptoSaid' is the law's where the arguments, and the package variables that the reading takes, are together of bulk at most 1048576: NARROWER than '..Said'. Prove '..Said' where nothing that the law and all that it calls make is longer than what came in: it says more and counts as full. Else prove '..UptoSaid'. A law counts once. -/
mutual
def uptoBulk {H : Type} : DataW H → Nat
  | .lit (.string bytes) => bytes.length + 1
  | .lit _ => 1
  | .nil => 1
  | .ptr d => uptoBulk d + 1
  | .slice elems spare => uptoBulkAll elems + uptoBulkAll spare + 1
  | .agg parts => uptoBulkAll parts + 1
  | .iface _ d => uptoBulk d + 1
  | .map entries => uptoBulkEntries entries + 1
  | .held _ => 1
def uptoBulkAll {H : Type} : List (DataW H) → Nat
  | [] => 0
  | d :: r => uptoBulk d + uptoBulkAll r
def uptoBulkEntries {H : Type} : List (Lit × DataW H) → Nat
  | [] => 0
  | x :: r => uptoBulkEntry x + uptoBulkEntries r
def uptoBulkEntry {H : Type} : Lit × DataW H → Nat
  | (.string bytes, d) => bytes.length + uptoBulk d + 1
  | (_, d) => uptoBulk d + 1
 end
def uptoSmall : (H : Type) → List (DataW H) → Bool := fun _ ds => decide (uptoBulkAll ds ≤ 1048576)
def OpenSpec.upto (s : _root_.Go.ChangeSpec) : _root_.Go.OpenSpec := { _root_.Go.OpenSpec.ofChange s with cond := some uptoSmall }

/-- 'tipstafflaw33.WordSlots', WHERE WHAT IT READS IS OF BULK AT MOST 1048576: true; the input reads as it did. -/
def wordSlotsUptoRow : OpenClaim := { program := "ytbcmlgbhejcjbaadoor", sum := "bd3c0ab89cf8765cdf565a6461b18a897652995b8c4928115d13d9dffe62351c", func := "tipstaff/tipstafflaw33.WordSlots", spec := "wordSlots", unfollowed := true, recurses := true, named := ["tipstaff/word.does"], apart := false, laid := [("tipstaff/word.does", laid_tipstaff_word_does)], narrowed := true }
def WordSlotsUptoSaid : Prop := wordSlotsUptoRow.holds Tryd.pinned (OpenSpec.upto wordSlotsSpec)

/-- 'tipstafflaw33.WordAlone', WHERE WHAT IT READS IS OF BULK AT MOST 1048576: true; the input reads as it did. -/
def wordAloneUptoRow : OpenClaim := { program := "ytbcmlgbhejcjbaadoor", sum := "bd3c0ab89cf8765cdf565a6461b18a897652995b8c4928115d13d9dffe62351c", func := "tipstaff/tipstafflaw33.WordAlone", spec := "wordAlone", unfollowed := true, recurses := true, named := ["tipstaff/word.does"], apart := false, laid := [("tipstaff/word.does", laid_tipstaff_word_does)], narrowed := true }
def WordAloneUptoSaid : Prop := wordAloneUptoRow.holds Tryd.pinned (OpenSpec.upto wordAloneSpec)

/-- 'tipstafflaw33.WordParts', WHERE WHAT IT READS IS OF BULK AT MOST 1048576: true; the input reads as it did. -/
def wordPartsUptoRow : OpenClaim := { program := "ytbcmlgbhejcjbaadoor", sum := "bd3c0ab89cf8765cdf565a6461b18a897652995b8c4928115d13d9dffe62351c", func := "tipstaff/tipstafflaw33.WordParts", spec := "wordParts", unfollowed := true, recurses := true, named := ["tipstaff/word.does"], apart := false, laid := [("tipstaff/word.does", laid_tipstaff_word_does)], narrowed := true }
def WordPartsUptoSaid : Prop := wordPartsUptoRow.holds Tryd.pinned (OpenSpec.upto wordPartsSpec)

/-- 'tipstafflaw33.WordSeries', WHERE WHAT IT READS IS OF BULK AT MOST 1048576: true; the input reads as it did. -/
def wordSeriesUptoRow : OpenClaim := { program := "ytbcmlgbhejcjbaadoor", sum := "bd3c0ab89cf8765cdf565a6461b18a897652995b8c4928115d13d9dffe62351c", func := "tipstaff/tipstafflaw33.WordSeries", spec := "wordSeries", unfollowed := true, recurses := true, named := ["tipstaff/word.does"], apart := false, laid := [("tipstaff/word.does", laid_tipstaff_word_does)], narrowed := true }
def WordSeriesUptoSaid : Prop := wordSeriesUptoRow.holds Tryd.pinned (OpenSpec.upto wordSeriesSpec)

/-- 'tipstafflaw33.WordMakes', WHERE WHAT IT READS IS OF BULK AT MOST 1048576: true; the input reads as it did. -/
def wordMakesUptoRow : OpenClaim := { program := "ytbcmlgbhejcjbaadoor", sum := "bd3c0ab89cf8765cdf565a6461b18a897652995b8c4928115d13d9dffe62351c", func := "tipstaff/tipstafflaw33.WordMakes", spec := "wordMakes", unfollowed := true, recurses := true, named := ["tipstaff/word.does"], apart := false, laid := [("tipstaff/word.does", laid_tipstaff_word_does)], narrowed := true }
def WordMakesUptoSaid : Prop := wordMakesUptoRow.holds Tryd.pinned (OpenSpec.upto wordMakesSpec)

/-- 'tipstafflaw33.WordBits', WHERE WHAT IT READS IS OF BULK AT MOST 1048576: true; the input reads as it did. -/
def wordBitsUptoRow : OpenClaim := { program := "ytbcmlgbhejcjbaadoor", sum := "bd3c0ab89cf8765cdf565a6461b18a897652995b8c4928115d13d9dffe62351c", func := "tipstaff/tipstafflaw33.WordBits", spec := "wordBits", unfollowed := true, recurses := true, named := ["tipstaff/word.does"], apart := false, laid := [("tipstaff/word.does", laid_tipstaff_word_does)], narrowed := true }
def WordBitsUptoSaid : Prop := wordBitsUptoRow.holds Tryd.pinned (OpenSpec.upto wordBitsSpec)

/-- 'tipstafflaw33.WordBack', WHERE WHAT IT READS IS OF BULK AT MOST 1048576: true; the input reads as it did. -/
def wordBackUptoRow : OpenClaim := { program := "ytbcmlgbhejcjbaadoor", sum := "bd3c0ab89cf8765cdf565a6461b18a897652995b8c4928115d13d9dffe62351c", func := "tipstaff/tipstafflaw33.WordBack", spec := "wordBack", unfollowed := true, recurses := true, named := ["tipstaff/word.does"], apart := false, laid := [("tipstaff/word.does", laid_tipstaff_word_does)], narrowed := true }
def WordBackUptoSaid : Prop := wordBackUptoRow.holds Tryd.pinned (OpenSpec.upto wordBackSpec)

/-- 'tipstafflaw33.WordKnown', WHERE WHAT IT READS IS OF BULK AT MOST 1048576: true; the input reads as it did. -/
def wordKnownUptoRow : OpenClaim := { program := "ytbcmlgbhejcjbaadoor", sum := "bd3c0ab89cf8765cdf565a6461b18a897652995b8c4928115d13d9dffe62351c", func := "tipstaff/tipstafflaw33.WordKnown", spec := "wordKnown", unfollowed := true, recurses := true, named := ["tipstaff/word.does"], apart := false, laid := [("tipstaff/word.does", laid_tipstaff_word_does)], narrowed := true }
def WordKnownUptoSaid : Prop := wordKnownUptoRow.holds Tryd.pinned (OpenSpec.upto wordKnownSpec)

end Rows
end Go.Proofs.YtbcmlgbhejcjbaaDoor
