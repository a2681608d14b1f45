/-
  DERIVED. GIVEN WITH THE SEED: THE CARDS: each row of YtbcmlgbhejcjbaaDoorRows.lean that lists a variable, with what it lists TIED to the program's text (the seventh form; the later family's looks); each row that meets fmt, with fmt's text TOLD by the authors' own Lean function (tested against real Go, not proved from fmt's source: count such statements apart). THE CARD IS WHAT COUNTS. Prove the row's statement (the work); the ties are given (YtbcmlgbhejcjbaaDoorTie.lean); close each card by the builder's one call (the guide's Derived/Test/ToyasCard.lean, 'card_holds'). Laid BY PROGRAM, IN A SANDBOX (cutbox-door.mjs). By AI agents, Wed Nov 11 2026. No macro, syntax, notation, axiom, sorry.
-/
import Derived.Test.YtbcmlgbhejcjbaaDoorRows
import GoSem.ClaimSeven
namespace Go.Proofs.YtbcmlgbhejcjbaaDoor
namespace Rows

/-- THE TIED CARD OF 'tipstafflaw33.WordSlots'. -/
def wordSlotsCard : Claim7 := { stood := { row := wordSlotsRow, standIns := [], harness := (true, "bb48a2462653fedfff0f6de2546b6780451fb3037e7a6db4b76833222801f70d"), looks := false }, kinds := [], alts := [], laidByText := true, laidKinds := [.funcs], laidTests := true, laidLooks := .later }
def WordSlotsCardSaid : Prop := Claim7.holds Tryd.pinned (.plain (OpenSpec.ofChange wordSlotsSpec)) wordSlotsCard

/-- THE TIED CARD OF 'tipstafflaw33.WordAlone'. -/
def wordAloneCard : Claim7 := { stood := { row := wordAloneRow, standIns := [], harness := (true, "bb48a2462653fedfff0f6de2546b6780451fb3037e7a6db4b76833222801f70d"), looks := false }, kinds := [], alts := [], laidByText := true, laidKinds := [.funcs], laidTests := true, laidLooks := .later }
def WordAloneCardSaid : Prop := Claim7.holds Tryd.pinned (.plain (OpenSpec.ofChange wordAloneSpec)) wordAloneCard

/-- THE TIED CARD OF 'tipstafflaw33.WordParts'. -/
def wordPartsCard : Claim7 := { stood := { row := wordPartsRow, standIns := [], harness := (true, "bb48a2462653fedfff0f6de2546b6780451fb3037e7a6db4b76833222801f70d"), looks := false }, kinds := [], alts := [], laidByText := true, laidKinds := [.funcs], laidTests := true, laidLooks := .later }
def WordPartsCardSaid : Prop := Claim7.holds Tryd.pinned (.plain (OpenSpec.ofChange wordPartsSpec)) wordPartsCard

/-- THE TIED CARD OF 'tipstafflaw33.WordSeries'. -/
def wordSeriesCard : Claim7 := { stood := { row := wordSeriesRow, standIns := [], harness := (true, "bb48a2462653fedfff0f6de2546b6780451fb3037e7a6db4b76833222801f70d"), looks := false }, kinds := [], alts := [], laidByText := true, laidKinds := [.funcs], laidTests := true, laidLooks := .later }
def WordSeriesCardSaid : Prop := Claim7.holds Tryd.pinned (.plain (OpenSpec.ofChange wordSeriesSpec)) wordSeriesCard

/-- THE TIED CARD OF 'tipstafflaw33.WordMakes'. -/
def wordMakesCard : Claim7 := { stood := { row := wordMakesRow, standIns := [], harness := (true, "bb48a2462653fedfff0f6de2546b6780451fb3037e7a6db4b76833222801f70d"), looks := false }, kinds := [], alts := [], laidByText := true, laidKinds := [.funcs], laidTests := true, laidLooks := .later }
def WordMakesCardSaid : Prop := Claim7.holds Tryd.pinned (.plain (OpenSpec.ofChange wordMakesSpec)) wordMakesCard

/-- THE TIED CARD OF 'tipstafflaw33.WordBits'. -/
def wordBitsCard : Claim7 := { stood := { row := wordBitsRow, standIns := [], harness := (true, "bb48a2462653fedfff0f6de2546b6780451fb3037e7a6db4b76833222801f70d"), looks := false }, kinds := [], alts := [], laidByText := true, laidKinds := [.funcs], laidTests := true, laidLooks := .later }
def WordBitsCardSaid : Prop := Claim7.holds Tryd.pinned (.plain (OpenSpec.ofChange wordBitsSpec)) wordBitsCard

/-- THE TIED CARD OF 'tipstafflaw33.WordBack'. -/
def wordBackCard : Claim7 := { stood := { row := wordBackRow, standIns := [], harness := (true, "bb48a2462653fedfff0f6de2546b6780451fb3037e7a6db4b76833222801f70d"), looks := false }, kinds := [], alts := [], laidByText := true, laidKinds := [.funcs], laidTests := true, laidLooks := .later }
def WordBackCardSaid : Prop := Claim7.holds Tryd.pinned (.plain (OpenSpec.ofChange wordBackSpec)) wordBackCard

/-- THE TIED CARD OF 'tipstafflaw33.WordKnown'. -/
def wordKnownCard : Claim7 := { stood := { row := wordKnownRow, standIns := [], harness := (true, "bb48a2462653fedfff0f6de2546b6780451fb3037e7a6db4b76833222801f70d"), looks := false }, kinds := [], alts := [], laidByText := true, laidKinds := [.funcs], laidTests := true, laidLooks := .later }
def WordKnownCardSaid : Prop := Claim7.holds Tryd.pinned (.plain (OpenSpec.ofChange wordKnownSpec)) wordKnownCard

/-- THE SECOND FORM's CARD OF 'tipstafflaw33.WordSlots'. -/
def wordSlotsUptoCard : Claim7 := { stood := { row := wordSlotsUptoRow, standIns := [], harness := (true, "bb48a2462653fedfff0f6de2546b6780451fb3037e7a6db4b76833222801f70d"), looks := false }, kinds := [], alts := [], laidByText := true, laidKinds := [.funcs], laidTests := true, laidLooks := .later }
def WordSlotsUptoCardSaid : Prop := Claim7.holds Tryd.pinned (.plain (OpenSpec.upto wordSlotsSpec)) wordSlotsUptoCard

/-- THE SECOND FORM's CARD OF 'tipstafflaw33.WordAlone'. -/
def wordAloneUptoCard : Claim7 := { stood := { row := wordAloneUptoRow, standIns := [], harness := (true, "bb48a2462653fedfff0f6de2546b6780451fb3037e7a6db4b76833222801f70d"), looks := false }, kinds := [], alts := [], laidByText := true, laidKinds := [.funcs], laidTests := true, laidLooks := .later }
def WordAloneUptoCardSaid : Prop := Claim7.holds Tryd.pinned (.plain (OpenSpec.upto wordAloneSpec)) wordAloneUptoCard

/-- THE SECOND FORM's CARD OF 'tipstafflaw33.WordParts'. -/
def wordPartsUptoCard : Claim7 := { stood := { row := wordPartsUptoRow, standIns := [], harness := (true, "bb48a2462653fedfff0f6de2546b6780451fb3037e7a6db4b76833222801f70d"), looks := false }, kinds := [], alts := [], laidByText := true, laidKinds := [.funcs], laidTests := true, laidLooks := .later }
def WordPartsUptoCardSaid : Prop := Claim7.holds Tryd.pinned (.plain (OpenSpec.upto wordPartsSpec)) wordPartsUptoCard

/-- THE SECOND FORM's CARD OF 'tipstafflaw33.WordSeries'. -/
def wordSeriesUptoCard : Claim7 := { stood := { row := wordSeriesUptoRow, standIns := [], harness := (true, "bb48a2462653fedfff0f6de2546b6780451fb3037e7a6db4b76833222801f70d"), looks := false }, kinds := [], alts := [], laidByText := true, laidKinds := [.funcs], laidTests := true, laidLooks := .later }
def WordSeriesUptoCardSaid : Prop := Claim7.holds Tryd.pinned (.plain (OpenSpec.upto wordSeriesSpec)) wordSeriesUptoCard

/-- THE SECOND FORM's CARD OF 'tipstafflaw33.WordMakes'. -/
def wordMakesUptoCard : Claim7 := { stood := { row := wordMakesUptoRow, standIns := [], harness := (true, "bb48a2462653fedfff0f6de2546b6780451fb3037e7a6db4b76833222801f70d"), looks := false }, kinds := [], alts := [], laidByText := true, laidKinds := [.funcs], laidTests := true, laidLooks := .later }
def WordMakesUptoCardSaid : Prop := Claim7.holds Tryd.pinned (.plain (OpenSpec.upto wordMakesSpec)) wordMakesUptoCard

/-- THE SECOND FORM's CARD OF 'tipstafflaw33.WordBits'. -/
def wordBitsUptoCard : Claim7 := { stood := { row := wordBitsUptoRow, standIns := [], harness := (true, "bb48a2462653fedfff0f6de2546b6780451fb3037e7a6db4b76833222801f70d"), looks := false }, kinds := [], alts := [], laidByText := true, laidKinds := [.funcs], laidTests := true, laidLooks := .later }
def WordBitsUptoCardSaid : Prop := Claim7.holds Tryd.pinned (.plain (OpenSpec.upto wordBitsSpec)) wordBitsUptoCard

/-- THE SECOND FORM's CARD OF 'tipstafflaw33.WordBack'. -/
def wordBackUptoCard : Claim7 := { stood := { row := wordBackUptoRow, standIns := [], harness := (true, "bb48a2462653fedfff0f6de2546b6780451fb3037e7a6db4b76833222801f70d"), looks := false }, kinds := [], alts := [], laidByText := true, laidKinds := [.funcs], laidTests := true, laidLooks := .later }
def WordBackUptoCardSaid : Prop := Claim7.holds Tryd.pinned (.plain (OpenSpec.upto wordBackSpec)) wordBackUptoCard

/-- THE SECOND FORM's CARD OF 'tipstafflaw33.WordKnown'. -/
def wordKnownUptoCard : Claim7 := { stood := { row := wordKnownUptoRow, standIns := [], harness := (true, "bb48a2462653fedfff0f6de2546b6780451fb3037e7a6db4b76833222801f70d"), looks := false }, kinds := [], alts := [], laidByText := true, laidKinds := [.funcs], laidTests := true, laidLooks := .later }
def WordKnownUptoCardSaid : Prop := Claim7.holds Tryd.pinned (.plain (OpenSpec.upto wordKnownSpec)) wordKnownUptoCard
end Rows
end Go.Proofs.YtbcmlgbhejcjbaaDoor
