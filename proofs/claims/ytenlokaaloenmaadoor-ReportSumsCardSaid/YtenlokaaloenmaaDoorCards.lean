/-
  DERIVED. GIVEN WITH THE SEED: THE CARDS: each row of YtenlokaaloenmaaDoorRows.lean that lists a variable, with what it lists TIED to the program's text (the seventh form; the later family's looks); each row that meets fmt, with fmt's text TOLD by the authors' own Lean function (tested against real Go, not proved from fmt's source: count such statements apart). THE CARD IS WHAT COUNTS. Prove the row's statement (the work); the ties are given (YtenlokaaloenmaaDoorTie.lean); close each card by the builder's one call (the guide's Derived/Test/ToyasCard.lean, 'card_holds'). Laid BY PROGRAM, IN A SANDBOX (cutbox-door.mjs). By AI agents, Wed Nov 11 2026. No macro, syntax, notation, axiom, sorry.
-/
import Derived.Test.YtenlokaaloenmaaDoorRows
import GoSem.ClaimSeven
namespace Go.Proofs.YtenlokaaloenmaaDoor
namespace Rows

/-- THE TIED CARD OF 'tipstafflaw43.ReportParts'. -/
def reportPartsCard : Claim7 := { stood := { row := reportPartsRow, standIns := [], harness := (true, "ddf6a5fcb5ceee5bf8653d7cf745ff1e6ce515b5f66c456afde475f0e4279c09"), looks := false }, kinds := [], alts := [], laidByText := true, laidKinds := [.data], laidTests := true, laidLooks := .later }
def ReportPartsCardSaid : Prop := Claim7.holds Tryd.pinned (.plain (OpenSpec.ofChange reportPartsSpec)) reportPartsCard

/-- THE TIED CARD OF 'tipstafflaw43.ReportVisits'. -/
def reportVisitsCard : Claim7 := { stood := { row := reportVisitsRow, standIns := [], harness := (true, "ddf6a5fcb5ceee5bf8653d7cf745ff1e6ce515b5f66c456afde475f0e4279c09"), looks := false }, kinds := [], alts := [], laidByText := true, laidKinds := [.data], laidTests := true, laidLooks := .later }
def ReportVisitsCardSaid : Prop := Claim7.holds Tryd.pinned (.plain (OpenSpec.ofChange reportVisitsSpec)) reportVisitsCard

/-- THE TIED CARD OF 'tipstafflaw43.ReportCounts'. -/
def reportCountsCard : Claim7 := { stood := { row := reportCountsRow, standIns := [], harness := (true, "ddf6a5fcb5ceee5bf8653d7cf745ff1e6ce515b5f66c456afde475f0e4279c09"), looks := false }, kinds := [], alts := [], laidByText := true, laidKinds := [.data], laidTests := true, laidLooks := .later }
def ReportCountsCardSaid : Prop := Claim7.holds Tryd.pinned (.plain (OpenSpec.ofChange reportCountsSpec)) reportCountsCard

/-- THE TIED CARD OF 'tipstafflaw43.ReportSpells'. -/
def reportSpellsCard : Claim7 := { stood := { row := reportSpellsRow, standIns := [], harness := (true, "ddf6a5fcb5ceee5bf8653d7cf745ff1e6ce515b5f66c456afde475f0e4279c09"), looks := false }, kinds := [], alts := [], laidByText := true, laidKinds := [.data], laidTests := true, laidLooks := .later }
def ReportSpellsCardSaid : Prop := Claim7.holds Tryd.pinned (.plain (OpenSpec.ofChange reportSpellsSpec)) reportSpellsCard

/-- THE TIED CARD OF 'tipstafflaw43.ReportKnown'. -/
def reportKnownCard : Claim7 := { stood := { row := reportKnownRow, standIns := [], harness := (true, "ddf6a5fcb5ceee5bf8653d7cf745ff1e6ce515b5f66c456afde475f0e4279c09"), looks := false }, kinds := [], alts := [], laidByText := true, laidKinds := [.data], laidTests := true, laidLooks := .later }
def ReportKnownCardSaid : Prop := Claim7.holds Tryd.pinned (.plain (OpenSpec.ofChange reportKnownSpec)) reportKnownCard

/-- THE TIED CARD OF 'tipstafflaw43.ReportSums'. -/
def reportSumsCard : Claim7 := { stood := { row := reportSumsRow, standIns := [], harness := (true, "ddf6a5fcb5ceee5bf8653d7cf745ff1e6ce515b5f66c456afde475f0e4279c09"), looks := false }, kinds := [], alts := [], laidByText := true, laidKinds := [.data], laidTests := true, laidLooks := .later }
def ReportSumsCardSaid : Prop := Claim7.holds Tryd.pinned (.plain (OpenSpec.ofChange reportSumsSpec)) reportSumsCard

/-- THE SECOND FORM's CARD OF 'tipstafflaw43.ReportParts'. -/
def reportPartsUptoCard : Claim7 := { stood := { row := reportPartsUptoRow, standIns := [], harness := (true, "ddf6a5fcb5ceee5bf8653d7cf745ff1e6ce515b5f66c456afde475f0e4279c09"), looks := false }, kinds := [], alts := [], laidByText := true, laidKinds := [.data], laidTests := true, laidLooks := .later }
def ReportPartsUptoCardSaid : Prop := Claim7.holds Tryd.pinned (.plain (OpenSpec.upto reportPartsSpec)) reportPartsUptoCard

/-- THE SECOND FORM's CARD OF 'tipstafflaw43.ReportVisits'. -/
def reportVisitsUptoCard : Claim7 := { stood := { row := reportVisitsUptoRow, standIns := [], harness := (true, "ddf6a5fcb5ceee5bf8653d7cf745ff1e6ce515b5f66c456afde475f0e4279c09"), looks := false }, kinds := [], alts := [], laidByText := true, laidKinds := [.data], laidTests := true, laidLooks := .later }
def ReportVisitsUptoCardSaid : Prop := Claim7.holds Tryd.pinned (.plain (OpenSpec.upto reportVisitsSpec)) reportVisitsUptoCard

/-- THE SECOND FORM's CARD OF 'tipstafflaw43.ReportCounts'. -/
def reportCountsUptoCard : Claim7 := { stood := { row := reportCountsUptoRow, standIns := [], harness := (true, "ddf6a5fcb5ceee5bf8653d7cf745ff1e6ce515b5f66c456afde475f0e4279c09"), looks := false }, kinds := [], alts := [], laidByText := true, laidKinds := [.data], laidTests := true, laidLooks := .later }
def ReportCountsUptoCardSaid : Prop := Claim7.holds Tryd.pinned (.plain (OpenSpec.upto reportCountsSpec)) reportCountsUptoCard

/-- THE SECOND FORM's CARD OF 'tipstafflaw43.ReportSpells'. -/
def reportSpellsUptoCard : Claim7 := { stood := { row := reportSpellsUptoRow, standIns := [], harness := (true, "ddf6a5fcb5ceee5bf8653d7cf745ff1e6ce515b5f66c456afde475f0e4279c09"), looks := false }, kinds := [], alts := [], laidByText := true, laidKinds := [.data], laidTests := true, laidLooks := .later }
def ReportSpellsUptoCardSaid : Prop := Claim7.holds Tryd.pinned (.plain (OpenSpec.upto reportSpellsSpec)) reportSpellsUptoCard

/-- THE SECOND FORM's CARD OF 'tipstafflaw43.ReportKnown'. -/
def reportKnownUptoCard : Claim7 := { stood := { row := reportKnownUptoRow, standIns := [], harness := (true, "ddf6a5fcb5ceee5bf8653d7cf745ff1e6ce515b5f66c456afde475f0e4279c09"), looks := false }, kinds := [], alts := [], laidByText := true, laidKinds := [.data], laidTests := true, laidLooks := .later }
def ReportKnownUptoCardSaid : Prop := Claim7.holds Tryd.pinned (.plain (OpenSpec.upto reportKnownSpec)) reportKnownUptoCard

/-- THE SECOND FORM's CARD OF 'tipstafflaw43.ReportSums'. -/
def reportSumsUptoCard : Claim7 := { stood := { row := reportSumsUptoRow, standIns := [], harness := (true, "ddf6a5fcb5ceee5bf8653d7cf745ff1e6ce515b5f66c456afde475f0e4279c09"), looks := false }, kinds := [], alts := [], laidByText := true, laidKinds := [.data], laidTests := true, laidLooks := .later }
def ReportSumsUptoCardSaid : Prop := Claim7.holds Tryd.pinned (.plain (OpenSpec.upto reportSumsSpec)) reportSumsUptoCard
end Rows
end Go.Proofs.YtenlokaaloenmaaDoor
