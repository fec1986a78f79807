/-
  DERIVED. GIVEN WITH THE SEED: THE CARDS: each row of YtllebkdchemabaaGreatDoorRows.lean that lists a variable, with what it lists TIED to the program's text (the seventh form; the later family's looks); each row that meets fmt, with fmt's text TOLD by the authors' own Lean function (tested against real Go, not proved from fmt's source: count such statements apart). THE CARD IS WHAT COUNTS. Prove the row's statement (the work); the ties are given (YtllebkdchemabaaGreatDoorTie.lean); close each card by the builder's one call (the guide's Derived/Test/ToyasCard.lean, 'card_holds'). Laid BY PROGRAM, IN A SANDBOX (cutbox-door.mjs). By AI agents, Wed Nov 11 2026. No macro, syntax, notation, axiom, sorry.
-/
import Derived.Test.YtllebkdchemabaaGreatDoorRows
import GoSem.ClaimSeven
namespace Go.Proofs.YtllebkdchemabaaGreatDoor
namespace Rows

/-- THE TIED CARD OF 'padlocklaw04.PlayParses'. -/
def playParsesCard : Claim7 := { stood := { row := playParsesRow, standIns := [], harness := (true, "e43a07953f062cbd487ac494783de47d4487b11c014c7ea248b6c1f873464236"), looks := true }, kinds := [], alts := [], laidByText := true, laidKinds := [.data, .data, .data, .data, .sentinel, .sentinel, .widerDeep, .widerDeep, .widerDeep, .sentinel, .pinned], laidTests := true, laidLooks := .later }
def PlayParsesCardSaid : Prop := Claim7.holds Tryz.pinned (.plain (OpenSpec.ofChange playParsesSpec)) playParsesCard

/-- THE TIED CARD OF 'padlocklaw04.PlayFormats'. -/
def playFormatsCard : Claim7 := { stood := { row := playFormatsRow, standIns := [], harness := (true, "e43a07953f062cbd487ac494783de47d4487b11c014c7ea248b6c1f873464236"), looks := true }, kinds := [], alts := [], laidByText := true, laidKinds := [.data, .data, .data, .data, .sentinel, .sentinel, .widerDeep, .widerDeep, .widerDeep, .sentinel, .pinned], laidTests := true, laidLooks := .later }
def PlayFormatsCardSaid : Prop := Claim7.holds Tryz.pinned (.plain (OpenSpec.ofChange playFormatsSpec)) playFormatsCard

/-- THE SECOND FORM's CARD OF 'padlocklaw04.PlayParses'. -/
def playParsesUptoCard : Claim7 := { stood := { row := playParsesUptoRow, standIns := [], harness := (true, "e43a07953f062cbd487ac494783de47d4487b11c014c7ea248b6c1f873464236"), looks := true }, kinds := [], alts := [], laidByText := true, laidKinds := [.data, .data, .data, .data, .sentinel, .sentinel, .widerDeep, .widerDeep, .widerDeep, .sentinel, .pinned], laidTests := true, laidLooks := .later }
def PlayParsesUptoCardSaid : Prop := Claim7.holds Tryz.pinned (.plain (OpenSpec.upto playParsesSpec)) playParsesUptoCard

/-- THE SECOND FORM's CARD OF 'padlocklaw04.PlayFormats'. -/
def playFormatsUptoCard : Claim7 := { stood := { row := playFormatsUptoRow, standIns := [], harness := (true, "e43a07953f062cbd487ac494783de47d4487b11c014c7ea248b6c1f873464236"), looks := true }, kinds := [], alts := [], laidByText := true, laidKinds := [.data, .data, .data, .data, .sentinel, .sentinel, .widerDeep, .widerDeep, .widerDeep, .sentinel, .pinned], laidTests := true, laidLooks := .later }
def PlayFormatsUptoCardSaid : Prop := Claim7.holds Tryz.pinned (.plain (OpenSpec.upto playFormatsSpec)) playFormatsUptoCard
end Rows
end Go.Proofs.YtllebkdchemabaaGreatDoor
