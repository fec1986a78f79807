/-
  DERIVED. GIVEN WITH THE SEED: THE CARDS: each row of YtbboikncaihafaaGreatDoorRows.lean that lists a variable, with what it lists TIED to the program's text (the seventh form; the later family's looks); each row that meets fmt, with fmt's text TOLD by the authors' own Lean function (tested against real Go, not proved from fmt's source: count such statements apart). THE CARD IS WHAT COUNTS. Prove the row's statement (the work); the ties are given (YtbboikncaihafaaGreatDoorTie.lean); close each card by the builder's one call (the guide's Derived/Test/ToyasCard.lean, 'card_holds'). Laid BY PROGRAM, IN A SANDBOX (cutbox-door.mjs). By AI agents, Wed Nov 11 2026. No macro, syntax, notation, axiom, sorry.
-/
import Derived.Test.YtbboikncaihafaaGreatDoorRows
import GoSem.ClaimSeven
namespace Go.Proofs.YtbboikncaihafaaGreatDoor
namespace Rows

/-- THE TIED CARD OF 'padlocktop.TopNext'. -/
def topNextCard : Claim7 := { stood := { row := topNextRow, standIns := [], harness := (true, "23f0ec78cf0b6fd08abb9e056889bf2e734929b3f2ca8e51bf753b6d1c356c03"), looks := false }, kinds := [], alts := [], laidByText := true, laidKinds := [.data, .data, .data, .widerDeep], laidTests := true, laidLooks := .later }
def TopNextCardSaid : Prop := Claim7.holds Tryz.pinned (.plain (OpenSpec.ofChange topNextSpec)) topNextCard

/-- THE TIED CARD OF 'padlocklaw12.RecordMerges'. -/
def recordMergesCard : Claim7 := { stood := { row := recordMergesRow, standIns := [], harness := (true, "23f0ec78cf0b6fd08abb9e056889bf2e734929b3f2ca8e51bf753b6d1c356c03"), looks := false }, kinds := [], alts := [], laidByText := true, laidKinds := [.widerDeep], laidTests := true, laidLooks := .later }
def RecordMergesCardSaid : Prop := Claim7.holds Tryz.pinned (.plain (OpenSpec.ofChange recordMergesSpec)) recordMergesCard

/-- THE TIED CARD OF 'padlocklaw12.RecordRanks'. -/
def recordRanksCard : Claim7 := { stood := { row := recordRanksRow, standIns := [], harness := (true, "23f0ec78cf0b6fd08abb9e056889bf2e734929b3f2ca8e51bf753b6d1c356c03"), looks := false }, kinds := [], alts := [], laidByText := true, laidKinds := [.widerDeep], laidTests := true, laidLooks := .later }
def RecordRanksCardSaid : Prop := Claim7.holds Tryz.pinned (.plain (OpenSpec.ofChange recordRanksSpec)) recordRanksCard

/-- THE TIED CARD OF 'padlocklaw12.RecordCuts'. -/
def recordCutsCard : Claim7 := { stood := { row := recordCutsRow, standIns := [], harness := (true, "23f0ec78cf0b6fd08abb9e056889bf2e734929b3f2ca8e51bf753b6d1c356c03"), looks := false }, kinds := [], alts := [], laidByText := true, laidKinds := [.widerDeep], laidTests := true, laidLooks := .later }
def RecordCutsCardSaid : Prop := Claim7.holds Tryz.pinned (.plain (OpenSpec.ofChange recordCutsSpec)) recordCutsCard

/-- THE SECOND FORM's CARD OF 'padlocktop.TopNext'. -/
def topNextUptoCard : Claim7 := { stood := { row := topNextUptoRow, standIns := [], harness := (true, "23f0ec78cf0b6fd08abb9e056889bf2e734929b3f2ca8e51bf753b6d1c356c03"), looks := false }, kinds := [], alts := [], laidByText := true, laidKinds := [.data, .data, .data, .widerDeep], laidTests := true, laidLooks := .later }
def TopNextUptoCardSaid : Prop := Claim7.holds Tryz.pinned (.plain (OpenSpec.upto topNextSpec)) topNextUptoCard

/-- THE SECOND FORM's CARD OF 'padlocklaw12.RecordMerges'. -/
def recordMergesUptoCard : Claim7 := { stood := { row := recordMergesUptoRow, standIns := [], harness := (true, "23f0ec78cf0b6fd08abb9e056889bf2e734929b3f2ca8e51bf753b6d1c356c03"), looks := false }, kinds := [], alts := [], laidByText := true, laidKinds := [.widerDeep], laidTests := true, laidLooks := .later }
def RecordMergesUptoCardSaid : Prop := Claim7.holds Tryz.pinned (.plain (OpenSpec.upto recordMergesSpec)) recordMergesUptoCard

/-- THE SECOND FORM's CARD OF 'padlocklaw12.RecordRanks'. -/
def recordRanksUptoCard : Claim7 := { stood := { row := recordRanksUptoRow, standIns := [], harness := (true, "23f0ec78cf0b6fd08abb9e056889bf2e734929b3f2ca8e51bf753b6d1c356c03"), looks := false }, kinds := [], alts := [], laidByText := true, laidKinds := [.widerDeep], laidTests := true, laidLooks := .later }
def RecordRanksUptoCardSaid : Prop := Claim7.holds Tryz.pinned (.plain (OpenSpec.upto recordRanksSpec)) recordRanksUptoCard

/-- THE SECOND FORM's CARD OF 'padlocklaw12.RecordCuts'. -/
def recordCutsUptoCard : Claim7 := { stood := { row := recordCutsUptoRow, standIns := [], harness := (true, "23f0ec78cf0b6fd08abb9e056889bf2e734929b3f2ca8e51bf753b6d1c356c03"), looks := false }, kinds := [], alts := [], laidByText := true, laidKinds := [.widerDeep], laidTests := true, laidLooks := .later }
def RecordCutsUptoCardSaid : Prop := Claim7.holds Tryz.pinned (.plain (OpenSpec.upto recordCutsSpec)) recordCutsUptoCard
end Rows
end Go.Proofs.YtbboikncaihafaaGreatDoor
