/-
  No cell of these rows narrows 'for every input' (looked for: loops, veiled, ifaces, maps, wideKeys, modest, calm, conditions, laid).
  DERIVED. THE GIVEN ROWS OF THIS SEAT. 8 by the template 'for every input the law returns true; each argument reads behind the call as it read before'; 0 by the template 'total and deterministic' (their statements: YtifcjlehbmbacaaTotals.lean).
  GIVEN WITH THE SEED: the statements are not yours to turn. If you find one false, say at which input.
  Laid BY PROGRAM, IN A SANDBOX (cutbox-rows.mjs): the forced cells as the released guide's own fill.sh prints them over the translation 63219e74e72f315e… (all of the seat's roots in one cut). By AI agents, Wed Nov 11 2026. No macro, syntax, notation, axiom, sorry.
-/
import Derived.Test.YtifcjlehbmbacaaChecked
import GoSem.Claim
import GoSem.ClaimJoined
import GoSem.ClaimMapViews
import Derived.JoinedTies
import Derived.KernelRfl
namespace Go.Proofs.Ytifcjlehbmbacaa
/- THE CELL 'sum', in the pinned program and in every row, IS THE sha256 OF THE DUMP (.gsa) THAT YtifcjlehbmbacaaProg.lean LOADS. Nothing in Lean hashes anything: it is a label: what it is worth is what the hold of that sum in a sandbox is worth. -/
noncomputable def Try.pinned : Pinned := { name := "ytifcjlehbmbacaa", sum := "63219e74e72f315ef3dae30fb56a484d3728d5a9489a6ee07ad517dd8f7f4b04", checked := Try.checked }
namespace Rows
def none {H : Type} : Left H := { results := [], args := [] }

/-- 'tipstafflaw11.LoadBands': WHATEVER THE INPUT: true; the input reads as it did. -/
def loadBandsSpec : ChangeSpec := { name := "loadBands", fn := fun _ => fun
  | [d1, d2, d3] => { results := [.lit (.bool true)], args := [d1, d2, d3] }
  | _ => none }
def loadBandsRow : OpenClaim := { program := "ytifcjlehbmbacaa", sum := "63219e74e72f315ef3dae30fb56a484d3728d5a9489a6ee07ad517dd8f7f4b04", func := "tipstaff/tipstafflaw11.LoadBands", spec := "loadBands", apart := false }
def LoadBandsSaid : Prop := loadBandsRow.holds Try.pinned (OpenSpec.ofChange loadBandsSpec)

/-- ITS FALSE NEIGHBOUR: 'it returns false'. Refute it at one input. -/
def loadBandsWrong : ChangeSpec := { name := "loadBands", fn := fun _ => fun
  | [d1, d2, d3] => { results := [.lit (.bool false)], args := [d1, d2, d3] }
  | _ => none }
def LoadBandsWrongFalsely : Prop := loadBandsRow.holds Try.pinned (OpenSpec.ofChange loadBandsWrong)

/-- 'tipstafflaw11.LoadFits': WHATEVER THE INPUT: true; the input reads as it did. -/
def loadFitsSpec : ChangeSpec := { name := "loadFits", fn := fun _ => fun
  | [d1, d2, d3] => { results := [.lit (.bool true)], args := [d1, d2, d3] }
  | _ => none }
def loadFitsRow : OpenClaim := { program := "ytifcjlehbmbacaa", sum := "63219e74e72f315ef3dae30fb56a484d3728d5a9489a6ee07ad517dd8f7f4b04", func := "tipstaff/tipstafflaw11.LoadFits", spec := "loadFits", apart := false }
def LoadFitsSaid : Prop := loadFitsRow.holds Try.pinned (OpenSpec.ofChange loadFitsSpec)

/-- ITS FALSE NEIGHBOUR: 'it returns false'. Refute it at one input. -/
def loadFitsWrong : ChangeSpec := { name := "loadFits", fn := fun _ => fun
  | [d1, d2, d3] => { results := [.lit (.bool false)], args := [d1, d2, d3] }
  | _ => none }
def LoadFitsWrongFalsely : Prop := loadFitsRow.holds Try.pinned (OpenSpec.ofChange loadFitsWrong)

/-- 'tipstafflaw11.LoadGrows': WHATEVER THE INPUT: true; the input reads as it did. -/
def loadGrowsSpec : ChangeSpec := { name := "loadGrows", fn := fun _ => fun
  | [d1, d2, d3] => { results := [.lit (.bool true)], args := [d1, d2, d3] }
  | _ => none }
def loadGrowsRow : OpenClaim := { program := "ytifcjlehbmbacaa", sum := "63219e74e72f315ef3dae30fb56a484d3728d5a9489a6ee07ad517dd8f7f4b04", func := "tipstaff/tipstafflaw11.LoadGrows", spec := "loadGrows", apart := false }
def LoadGrowsSaid : Prop := loadGrowsRow.holds Try.pinned (OpenSpec.ofChange loadGrowsSpec)

/-- ITS FALSE NEIGHBOUR: 'it returns false'. Refute it at one input. -/
def loadGrowsWrong : ChangeSpec := { name := "loadGrows", fn := fun _ => fun
  | [d1, d2, d3] => { results := [.lit (.bool false)], args := [d1, d2, d3] }
  | _ => none }
def LoadGrowsWrongFalsely : Prop := loadGrowsRow.holds Try.pinned (OpenSpec.ofChange loadGrowsWrong)

/-- 'tipstafflaw11.LoadFull': WHATEVER THE INPUT: true; the input reads as it did. -/
def loadFullSpec : ChangeSpec := { name := "loadFull", fn := fun _ => fun
  | [d1, d2, d3] => { results := [.lit (.bool true)], args := [d1, d2, d3] }
  | _ => none }
def loadFullRow : OpenClaim := { program := "ytifcjlehbmbacaa", sum := "63219e74e72f315ef3dae30fb56a484d3728d5a9489a6ee07ad517dd8f7f4b04", func := "tipstaff/tipstafflaw11.LoadFull", spec := "loadFull", apart := false }
def LoadFullSaid : Prop := loadFullRow.holds Try.pinned (OpenSpec.ofChange loadFullSpec)

/-- ITS FALSE NEIGHBOUR: 'it returns false'. Refute it at one input. -/
def loadFullWrong : ChangeSpec := { name := "loadFull", fn := fun _ => fun
  | [d1, d2, d3] => { results := [.lit (.bool false)], args := [d1, d2, d3] }
  | _ => none }
def LoadFullWrongFalsely : Prop := loadFullRow.holds Try.pinned (OpenSpec.ofChange loadFullWrong)

/-- 'tipstafflaw11.LoadRuns': WHATEVER THE INPUT: true; the input reads as it did. -/
def loadRunsSpec : ChangeSpec := { name := "loadRuns", fn := fun _ => fun
  | [d1, d2] => { results := [.lit (.bool true)], args := [d1, d2] }
  | _ => none }
def loadRunsRow : OpenClaim := { program := "ytifcjlehbmbacaa", sum := "63219e74e72f315ef3dae30fb56a484d3728d5a9489a6ee07ad517dd8f7f4b04", func := "tipstaff/tipstafflaw11.LoadRuns", spec := "loadRuns", apart := false }
def LoadRunsSaid : Prop := loadRunsRow.holds Try.pinned (OpenSpec.ofChange loadRunsSpec)

/-- ITS FALSE NEIGHBOUR: 'it returns false'. Refute it at one input. -/
def loadRunsWrong : ChangeSpec := { name := "loadRuns", fn := fun _ => fun
  | [d1, d2] => { results := [.lit (.bool false)], args := [d1, d2] }
  | _ => none }
def LoadRunsWrongFalsely : Prop := loadRunsRow.holds Try.pinned (OpenSpec.ofChange loadRunsWrong)

/-- 'tipstafflaw11.LoadSlow': WHATEVER THE INPUT: true; the input reads as it did. -/
def loadSlowSpec : ChangeSpec := { name := "loadSlow", fn := fun _ => fun
  | [d1, d2] => { results := [.lit (.bool true)], args := [d1, d2] }
  | _ => none }
def loadSlowRow : OpenClaim := { program := "ytifcjlehbmbacaa", sum := "63219e74e72f315ef3dae30fb56a484d3728d5a9489a6ee07ad517dd8f7f4b04", func := "tipstaff/tipstafflaw11.LoadSlow", spec := "loadSlow", apart := false }
def LoadSlowSaid : Prop := loadSlowRow.holds Try.pinned (OpenSpec.ofChange loadSlowSpec)

/-- ITS FALSE NEIGHBOUR: 'it returns false'. Refute it at one input. -/
def loadSlowWrong : ChangeSpec := { name := "loadSlow", fn := fun _ => fun
  | [d1, d2] => { results := [.lit (.bool false)], args := [d1, d2] }
  | _ => none }
def LoadSlowWrongFalsely : Prop := loadSlowRow.holds Try.pinned (OpenSpec.ofChange loadSlowWrong)

/-- 'tipstafflaw11.LoadSums': WHATEVER THE INPUT: true; the input reads as it did. -/
def loadSumsSpec : ChangeSpec := { name := "loadSums", fn := fun _ => fun
  | [d1, d2, d3] => { results := [.lit (.bool true)], args := [d1, d2, d3] }
  | _ => none }
def loadSumsRow : OpenClaim := { program := "ytifcjlehbmbacaa", sum := "63219e74e72f315ef3dae30fb56a484d3728d5a9489a6ee07ad517dd8f7f4b04", func := "tipstaff/tipstafflaw11.LoadSums", spec := "loadSums", apart := false }
def LoadSumsSaid : Prop := loadSumsRow.holds Try.pinned (OpenSpec.ofChange loadSumsSpec)

/-- ITS FALSE NEIGHBOUR: 'it returns false'. Refute it at one input. -/
def loadSumsWrong : ChangeSpec := { name := "loadSums", fn := fun _ => fun
  | [d1, d2, d3] => { results := [.lit (.bool false)], args := [d1, d2, d3] }
  | _ => none }
def LoadSumsWrongFalsely : Prop := loadSumsRow.holds Try.pinned (OpenSpec.ofChange loadSumsWrong)

/-- 'tipstafflaw11.LoadKnown': WHATEVER THE INPUT: true; the input reads as it did. -/
def loadKnownSpec : ChangeSpec := { name := "loadKnown", fn := fun _ => fun
  | [] => { results := [.lit (.bool true)], args := [] }
  | _ => none }
def loadKnownRow : OpenClaim := { program := "ytifcjlehbmbacaa", sum := "63219e74e72f315ef3dae30fb56a484d3728d5a9489a6ee07ad517dd8f7f4b04", func := "tipstaff/tipstafflaw11.LoadKnown", spec := "loadKnown", apart := false }
def LoadKnownSaid : Prop := loadKnownRow.holds Try.pinned (OpenSpec.ofChange loadKnownSpec)

/-- ITS FALSE NEIGHBOUR: 'it returns false'. Refute it at one input. -/
def loadKnownWrong : ChangeSpec := { name := "loadKnown", fn := fun _ => fun
  | [] => { results := [.lit (.bool false)], args := [] }
  | _ => none }
def LoadKnownWrongFalsely : Prop := loadKnownRow.holds Try.pinned (OpenSpec.ofChange loadKnownWrong)

/- THE SECOND FORM. 'bulk': how many values and letters a reading holds, each counted each time it is reached (what is shared counts as often as it is met; a slice's spare places count too). A statement '..UptoSaid' is the law's where the arguments, and the package variables that the reading takes, are together of bulk at most 1048576: NARROWER than '..Said'. Prove '..Said' where nothing that the law and all that it calls make is longer than what came in: it says more and counts as full. Else prove '..UptoSaid'. A law counts once. -/
mutual
def uptoBulk {H : Type} : DataW H → Nat
  | .lit (.string bytes) => bytes.length + 1
  | .lit _ => 1
  | .nil => 1
  | .ptr d => uptoBulk d + 1
  | .slice elems spare => uptoBulkAll elems + uptoBulkAll spare + 1
  | .agg parts => uptoBulkAll parts + 1
  | .iface _ d => uptoBulk d + 1
  | .map entries => uptoBulkEntries entries + 1
  | .held _ => 1
def uptoBulkAll {H : Type} : List (DataW H) → Nat
  | [] => 0
  | d :: r => uptoBulk d + uptoBulkAll r
def uptoBulkEntries {H : Type} : List (Lit × DataW H) → Nat
  | [] => 0
  | x :: r => uptoBulkEntry x + uptoBulkEntries r
def uptoBulkEntry {H : Type} : Lit × DataW H → Nat
  | (.string bytes, d) => bytes.length + uptoBulk d + 1
  | (_, d) => uptoBulk d + 1
 end
def uptoSmall : (H : Type) → List (DataW H) → Bool := fun _ ds => decide (uptoBulkAll ds ≤ 1048576)
def OpenSpec.upto (s : _root_.Go.ChangeSpec) : _root_.Go.OpenSpec := { _root_.Go.OpenSpec.ofChange s with cond := some uptoSmall }

/-- 'tipstafflaw11.LoadBands', WHERE WHAT IT READS IS OF BULK AT MOST 1048576: true; the input reads as it did. -/
def loadBandsUptoRow : OpenClaim := { program := "ytifcjlehbmbacaa", sum := "63219e74e72f315ef3dae30fb56a484d3728d5a9489a6ee07ad517dd8f7f4b04", func := "tipstaff/tipstafflaw11.LoadBands", spec := "loadBands", apart := false, narrowed := true }
def LoadBandsUptoSaid : Prop := loadBandsUptoRow.holds Try.pinned (OpenSpec.upto loadBandsSpec)

/-- 'tipstafflaw11.LoadFits', WHERE WHAT IT READS IS OF BULK AT MOST 1048576: true; the input reads as it did. -/
def loadFitsUptoRow : OpenClaim := { program := "ytifcjlehbmbacaa", sum := "63219e74e72f315ef3dae30fb56a484d3728d5a9489a6ee07ad517dd8f7f4b04", func := "tipstaff/tipstafflaw11.LoadFits", spec := "loadFits", apart := false, narrowed := true }
def LoadFitsUptoSaid : Prop := loadFitsUptoRow.holds Try.pinned (OpenSpec.upto loadFitsSpec)

/-- 'tipstafflaw11.LoadGrows', WHERE WHAT IT READS IS OF BULK AT MOST 1048576: true; the input reads as it did. -/
def loadGrowsUptoRow : OpenClaim := { program := "ytifcjlehbmbacaa", sum := "63219e74e72f315ef3dae30fb56a484d3728d5a9489a6ee07ad517dd8f7f4b04", func := "tipstaff/tipstafflaw11.LoadGrows", spec := "loadGrows", apart := false, narrowed := true }
def LoadGrowsUptoSaid : Prop := loadGrowsUptoRow.holds Try.pinned (OpenSpec.upto loadGrowsSpec)

/-- 'tipstafflaw11.LoadFull', WHERE WHAT IT READS IS OF BULK AT MOST 1048576: true; the input reads as it did. -/
def loadFullUptoRow : OpenClaim := { program := "ytifcjlehbmbacaa", sum := "63219e74e72f315ef3dae30fb56a484d3728d5a9489a6ee07ad517dd8f7f4b04", func := "tipstaff/tipstafflaw11.LoadFull", spec := "loadFull", apart := false, narrowed := true }
def LoadFullUptoSaid : Prop := loadFullUptoRow.holds Try.pinned (OpenSpec.upto loadFullSpec)

/-- 'tipstafflaw11.LoadRuns', WHERE WHAT IT READS IS OF BULK AT MOST 1048576: true; the input reads as it did. -/
def loadRunsUptoRow : OpenClaim := { program := "ytifcjlehbmbacaa", sum := "63219e74e72f315ef3dae30fb56a484d3728d5a9489a6ee07ad517dd8f7f4b04", func := "tipstaff/tipstafflaw11.LoadRuns", spec := "loadRuns", apart := false, narrowed := true }
def LoadRunsUptoSaid : Prop := loadRunsUptoRow.holds Try.pinned (OpenSpec.upto loadRunsSpec)

/-- 'tipstafflaw11.LoadSlow', WHERE WHAT IT READS IS OF BULK AT MOST 1048576: true; the input reads as it did. -/
def loadSlowUptoRow : OpenClaim := { program := "ytifcjlehbmbacaa", sum := "63219e74e72f315ef3dae30fb56a484d3728d5a9489a6ee07ad517dd8f7f4b04", func := "tipstaff/tipstafflaw11.LoadSlow", spec := "loadSlow", apart := false, narrowed := true }
def LoadSlowUptoSaid : Prop := loadSlowUptoRow.holds Try.pinned (OpenSpec.upto loadSlowSpec)

/-- 'tipstafflaw11.LoadSums', WHERE WHAT IT READS IS OF BULK AT MOST 1048576: true; the input reads as it did. -/
def loadSumsUptoRow : OpenClaim := { program := "ytifcjlehbmbacaa", sum := "63219e74e72f315ef3dae30fb56a484d3728d5a9489a6ee07ad517dd8f7f4b04", func := "tipstaff/tipstafflaw11.LoadSums", spec := "loadSums", apart := false, narrowed := true }
def LoadSumsUptoSaid : Prop := loadSumsUptoRow.holds Try.pinned (OpenSpec.upto loadSumsSpec)

/-- 'tipstafflaw11.LoadKnown', WHERE WHAT IT READS IS OF BULK AT MOST 1048576: true; the input reads as it did. -/
def loadKnownUptoRow : OpenClaim := { program := "ytifcjlehbmbacaa", sum := "63219e74e72f315ef3dae30fb56a484d3728d5a9489a6ee07ad517dd8f7f4b04", func := "tipstaff/tipstafflaw11.LoadKnown", spec := "loadKnown", apart := false, narrowed := true }
def LoadKnownUptoSaid : Prop := loadKnownUptoRow.holds Try.pinned (OpenSpec.upto loadKnownSpec)

end Rows
end Go.Proofs.Ytifcjlehbmbacaa
