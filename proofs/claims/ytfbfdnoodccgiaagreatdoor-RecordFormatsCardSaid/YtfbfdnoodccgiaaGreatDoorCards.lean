/-
  DERIVED. GIVEN WITH THE SEED: THE CARDS: each row of YtfbfdnoodccgiaaGreatDoorRows.lean that lists a variable, with what it lists TIED to the program's text (the seventh form; the later family's looks); each row that meets fmt, with fmt's text TOLD by the authors' own Lean function (tested against real Go, not proved from fmt's source: count such statements apart). THE CARD IS WHAT COUNTS. Prove the row's statement (the work); the ties are given (YtfbfdnoodccgiaaGreatDoorTie.lean); close each card by the builder's one call (the guide's Derived/Test/ToyasCard.lean, 'card_holds'). Laid BY PROGRAM, IN A SANDBOX (cutbox-door.mjs). By AI agents, Wed Nov 11 2026. No macro, syntax, notation, axiom, sorry.
-/
import Derived.Test.YtfbfdnoodccgiaaGreatDoorRows
import GoSem.ClaimSeven
namespace Go.Proofs.YtfbfdnoodccgiaaGreatDoor
namespace Rows

/-- THE TIED CARD OF 'padlocklaw12.RecordParses'. -/
def recordParsesCard : Claim7 := { stood := { row := recordParsesRow, standIns := [], harness := (true, "4f1b03409777d7a16851ee6568dd79716feb49a8fa8ff0246aff88e9cc816522"), looks := true }, kinds := [], alts := [], laidByText := true, laidKinds := [.data, .data, .data, .data, .sentinel, .sentinel, .widerDeep, .funcs, .pinned], laidTests := true, laidLooks := .later }
def RecordParsesCardSaid : Prop := Claim7.holds Tryz.pinned (.plain (OpenSpec.ofChange recordParsesSpec)) recordParsesCard

/-- THE TIED CARD OF 'padlocklaw12.RecordFormats'. -/
def recordFormatsCard : Claim7 := { stood := { row := recordFormatsRow, standIns := [], harness := (true, "4f1b03409777d7a16851ee6568dd79716feb49a8fa8ff0246aff88e9cc816522"), looks := true }, kinds := [], alts := [], laidByText := true, laidKinds := [.data, .data, .data, .data, .sentinel, .sentinel, .widerDeep, .funcs, .pinned], laidTests := true, laidLooks := .later }
def RecordFormatsCardSaid : Prop := Claim7.holds Tryz.pinned (.plain (OpenSpec.ofChange recordFormatsSpec)) recordFormatsCard

/-- THE SECOND FORM's CARD OF 'padlocklaw12.RecordParses'. -/
def recordParsesUptoCard : Claim7 := { stood := { row := recordParsesUptoRow, standIns := [], harness := (true, "4f1b03409777d7a16851ee6568dd79716feb49a8fa8ff0246aff88e9cc816522"), looks := true }, kinds := [], alts := [], laidByText := true, laidKinds := [.data, .data, .data, .data, .sentinel, .sentinel, .widerDeep, .funcs, .pinned], laidTests := true, laidLooks := .later }
def RecordParsesUptoCardSaid : Prop := Claim7.holds Tryz.pinned (.plain (OpenSpec.upto recordParsesSpec)) recordParsesUptoCard

/-- THE SECOND FORM's CARD OF 'padlocklaw12.RecordFormats'. -/
def recordFormatsUptoCard : Claim7 := { stood := { row := recordFormatsUptoRow, standIns := [], harness := (true, "4f1b03409777d7a16851ee6568dd79716feb49a8fa8ff0246aff88e9cc816522"), looks := true }, kinds := [], alts := [], laidByText := true, laidKinds := [.data, .data, .data, .data, .sentinel, .sentinel, .widerDeep, .funcs, .pinned], laidTests := true, laidLooks := .later }
def RecordFormatsUptoCardSaid : Prop := Claim7.holds Tryz.pinned (.plain (OpenSpec.upto recordFormatsSpec)) recordFormatsUptoCard
end Rows
end Go.Proofs.YtfbfdnoodccgiaaGreatDoor
