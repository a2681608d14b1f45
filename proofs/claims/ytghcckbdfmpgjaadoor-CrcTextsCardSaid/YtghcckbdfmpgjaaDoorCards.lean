/-
  DERIVED. GIVEN WITH THE SEED: THE CARDS: each row of YtghcckbdfmpgjaaDoorRows.lean that lists a variable, with what it lists TIED to the program's text (the seventh form; the later family's looks); each row that meets fmt, with fmt's text TOLD by the authors' own Lean function (tested against real Go, not proved from fmt's source: count such statements apart). THE CARD IS WHAT COUNTS. Prove the row's statement (the work); the ties are given (YtghcckbdfmpgjaaDoorTie.lean); close each card by the builder's one call (the guide's Derived/Test/ToyasCard.lean, 'card_holds'). Laid BY PROGRAM, IN A SANDBOX (cutbox-door.mjs). By AI agents, Wed Nov 11 2026. No macro, syntax, notation, axiom, sorry.
-/
import Derived.Test.YtghcckbdfmpgjaaDoorRows
import GoSem.ClaimSeven
namespace Go.Proofs.YtghcckbdfmpgjaaDoor
namespace Rows

/-- THE TIED CARD OF 'tipstafflaw04.CrcTells'. -/
def crcTellsCard : Claim7 := { stood := { row := crcTellsRow, standIns := [], harness := (true, "da92c3f6aa8b564dfaee50d2657af7e78a40f5b6dcdcf4aadde79258aeaee3c7"), looks := false }, kinds := [], alts := [], laidByText := true, laidKinds := [.data], laidTests := true, laidLooks := .later }
def CrcTellsCardSaid : Prop := Claim7.holds Tryd.pinned (.plain (OpenSpec.ofChange crcTellsSpec)) crcTellsCard

/-- THE TIED CARD OF 'tipstafflaw04.CrcParts'. -/
def crcPartsCard : Claim7 := { stood := { row := crcPartsRow, standIns := [], harness := (true, "da92c3f6aa8b564dfaee50d2657af7e78a40f5b6dcdcf4aadde79258aeaee3c7"), looks := false }, kinds := [], alts := [], laidByText := true, laidKinds := [.data], laidTests := true, laidLooks := .later }
def CrcPartsCardSaid : Prop := Claim7.holds Tryd.pinned (.plain (OpenSpec.ofChange crcPartsSpec)) crcPartsCard

/-- THE TIED CARD OF 'tipstafflaw04.CrcSums'. -/
def crcSumsCard : Claim7 := { stood := { row := crcSumsRow, standIns := [], harness := (true, "da92c3f6aa8b564dfaee50d2657af7e78a40f5b6dcdcf4aadde79258aeaee3c7"), looks := false }, kinds := [], alts := [], laidByText := true, laidKinds := [.data], laidTests := true, laidLooks := .later }
def CrcSumsCardSaid : Prop := Claim7.holds Tryd.pinned (.plain (OpenSpec.ofChange crcSumsSpec)) crcSumsCard

/-- THE TIED CARD OF 'tipstafflaw04.CrcFixes'. -/
def crcFixesCard : Claim7 := { stood := { row := crcFixesRow, standIns := [], harness := (true, "da92c3f6aa8b564dfaee50d2657af7e78a40f5b6dcdcf4aadde79258aeaee3c7"), looks := false }, kinds := [], alts := [], laidByText := true, laidKinds := [.data], laidTests := true, laidLooks := .later }
def CrcFixesCardSaid : Prop := Claim7.holds Tryd.pinned (.plain (OpenSpec.ofChange crcFixesSpec)) crcFixesCard

/-- THE TIED CARD OF 'tipstafflaw04.CrcTexts'. -/
def crcTextsCard : Claim7 := { stood := { row := crcTextsRow, standIns := [], harness := (true, "da92c3f6aa8b564dfaee50d2657af7e78a40f5b6dcdcf4aadde79258aeaee3c7"), looks := false }, kinds := [], alts := [], laidByText := true, laidKinds := [.data], laidTests := true, laidLooks := .later }
def CrcTextsCardSaid : Prop := Claim7.holds Tryd.pinned (.plain (OpenSpec.ofChange crcTextsSpec)) crcTextsCard

/-- THE TIED CARD OF 'tipstafflaw04.CrcKnown'. -/
def crcKnownCard : Claim7 := { stood := { row := crcKnownRow, standIns := [], harness := (true, "da92c3f6aa8b564dfaee50d2657af7e78a40f5b6dcdcf4aadde79258aeaee3c7"), looks := false }, kinds := [], alts := [], laidByText := true, laidKinds := [.data], laidTests := true, laidLooks := .later }
def CrcKnownCardSaid : Prop := Claim7.holds Tryd.pinned (.plain (OpenSpec.ofChange crcKnownSpec)) crcKnownCard

/-- THE TIED CARD OF 'tipstafflaw04.CrcSeals'. -/
def crcSealsCard : Claim7 := { stood := { row := crcSealsRow, standIns := [], harness := (true, "da92c3f6aa8b564dfaee50d2657af7e78a40f5b6dcdcf4aadde79258aeaee3c7"), looks := false }, kinds := [], alts := [], laidByText := true, laidKinds := [.data], laidTests := true, laidLooks := .later }
def CrcSealsCardSaid : Prop := Claim7.holds Tryd.pinned (.plain (OpenSpec.ofChange crcSealsSpec)) crcSealsCard

/-- THE SECOND FORM's CARD OF 'tipstafflaw04.CrcTells'. -/
def crcTellsUptoCard : Claim7 := { stood := { row := crcTellsUptoRow, standIns := [], harness := (true, "da92c3f6aa8b564dfaee50d2657af7e78a40f5b6dcdcf4aadde79258aeaee3c7"), looks := false }, kinds := [], alts := [], laidByText := true, laidKinds := [.data], laidTests := true, laidLooks := .later }
def CrcTellsUptoCardSaid : Prop := Claim7.holds Tryd.pinned (.plain (OpenSpec.upto crcTellsSpec)) crcTellsUptoCard

/-- THE SECOND FORM's CARD OF 'tipstafflaw04.CrcParts'. -/
def crcPartsUptoCard : Claim7 := { stood := { row := crcPartsUptoRow, standIns := [], harness := (true, "da92c3f6aa8b564dfaee50d2657af7e78a40f5b6dcdcf4aadde79258aeaee3c7"), looks := false }, kinds := [], alts := [], laidByText := true, laidKinds := [.data], laidTests := true, laidLooks := .later }
def CrcPartsUptoCardSaid : Prop := Claim7.holds Tryd.pinned (.plain (OpenSpec.upto crcPartsSpec)) crcPartsUptoCard

/-- THE SECOND FORM's CARD OF 'tipstafflaw04.CrcSums'. -/
def crcSumsUptoCard : Claim7 := { stood := { row := crcSumsUptoRow, standIns := [], harness := (true, "da92c3f6aa8b564dfaee50d2657af7e78a40f5b6dcdcf4aadde79258aeaee3c7"), looks := false }, kinds := [], alts := [], laidByText := true, laidKinds := [.data], laidTests := true, laidLooks := .later }
def CrcSumsUptoCardSaid : Prop := Claim7.holds Tryd.pinned (.plain (OpenSpec.upto crcSumsSpec)) crcSumsUptoCard

/-- THE SECOND FORM's CARD OF 'tipstafflaw04.CrcFixes'. -/
def crcFixesUptoCard : Claim7 := { stood := { row := crcFixesUptoRow, standIns := [], harness := (true, "da92c3f6aa8b564dfaee50d2657af7e78a40f5b6dcdcf4aadde79258aeaee3c7"), looks := false }, kinds := [], alts := [], laidByText := true, laidKinds := [.data], laidTests := true, laidLooks := .later }
def CrcFixesUptoCardSaid : Prop := Claim7.holds Tryd.pinned (.plain (OpenSpec.upto crcFixesSpec)) crcFixesUptoCard

/-- THE SECOND FORM's CARD OF 'tipstafflaw04.CrcTexts'. -/
def crcTextsUptoCard : Claim7 := { stood := { row := crcTextsUptoRow, standIns := [], harness := (true, "da92c3f6aa8b564dfaee50d2657af7e78a40f5b6dcdcf4aadde79258aeaee3c7"), looks := false }, kinds := [], alts := [], laidByText := true, laidKinds := [.data], laidTests := true, laidLooks := .later }
def CrcTextsUptoCardSaid : Prop := Claim7.holds Tryd.pinned (.plain (OpenSpec.upto crcTextsSpec)) crcTextsUptoCard

/-- THE SECOND FORM's CARD OF 'tipstafflaw04.CrcKnown'. -/
def crcKnownUptoCard : Claim7 := { stood := { row := crcKnownUptoRow, standIns := [], harness := (true, "da92c3f6aa8b564dfaee50d2657af7e78a40f5b6dcdcf4aadde79258aeaee3c7"), looks := false }, kinds := [], alts := [], laidByText := true, laidKinds := [.data], laidTests := true, laidLooks := .later }
def CrcKnownUptoCardSaid : Prop := Claim7.holds Tryd.pinned (.plain (OpenSpec.upto crcKnownSpec)) crcKnownUptoCard

/-- THE SECOND FORM's CARD OF 'tipstafflaw04.CrcSeals'. -/
def crcSealsUptoCard : Claim7 := { stood := { row := crcSealsUptoRow, standIns := [], harness := (true, "da92c3f6aa8b564dfaee50d2657af7e78a40f5b6dcdcf4aadde79258aeaee3c7"), looks := false }, kinds := [], alts := [], laidByText := true, laidKinds := [.data], laidTests := true, laidLooks := .later }
def CrcSealsUptoCardSaid : Prop := Claim7.holds Tryd.pinned (.plain (OpenSpec.upto crcSealsSpec)) crcSealsUptoCard
end Rows
end Go.Proofs.YtghcckbdfmpgjaaDoor
