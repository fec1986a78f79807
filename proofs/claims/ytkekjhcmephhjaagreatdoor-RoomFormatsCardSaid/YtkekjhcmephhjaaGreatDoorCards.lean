/-
  DERIVED. GIVEN WITH THE SEED: THE CARDS: each row of YtkekjhcmephhjaaGreatDoorRows.lean that lists a variable, with what it lists TIED to the program's text (the seventh form; the later family's looks); each row that meets fmt, with fmt's text TOLD by the authors' own Lean function (tested against real Go, not proved from fmt's source: count such statements apart). THE CARD IS WHAT COUNTS. Prove the row's statement (the work); the ties are given (YtkekjhcmephhjaaGreatDoorTie.lean); close each card by the builder's one call (the guide's Derived/Test/ToyasCard.lean, 'card_holds'). Laid BY PROGRAM, IN A SANDBOX (cutbox-door.mjs). By AI agents, Wed Nov 11 2026. No macro, syntax, notation, axiom, sorry.
-/
import Derived.Test.YtkekjhcmephhjaaGreatDoorRows
import GoSem.ClaimSeven
namespace Go.Proofs.YtkekjhcmephhjaaGreatDoor
namespace Rows

/-- THE TIED CARD OF 'padlocklaw02.RoomParses'. -/
def roomParsesCard : Claim7 := { stood := { row := roomParsesRow, standIns := [], harness := (true, "1da686ef83c8d1eb36e46d7a83acad393e5a19f5a3fe850798a9d87c1f4356b5"), looks := true }, kinds := [], alts := [], laidByText := true, laidKinds := [.data, .data, .data, .data, .sentinel, .sentinel, .widerDeep, .widerDeep, .pinned], laidTests := true, laidLooks := .later }
def RoomParsesCardSaid : Prop := Claim7.holds Tryz.pinned (.plain (OpenSpec.ofChange roomParsesSpec)) roomParsesCard

/-- THE TIED CARD OF 'padlocklaw02.RoomFormats'. -/
def roomFormatsCard : Claim7 := { stood := { row := roomFormatsRow, standIns := [], harness := (true, "1da686ef83c8d1eb36e46d7a83acad393e5a19f5a3fe850798a9d87c1f4356b5"), looks := true }, kinds := [], alts := [], laidByText := true, laidKinds := [.data, .data, .data, .data, .sentinel, .sentinel, .widerDeep, .widerDeep, .pinned], laidTests := true, laidLooks := .later }
def RoomFormatsCardSaid : Prop := Claim7.holds Tryz.pinned (.plain (OpenSpec.ofChange roomFormatsSpec)) roomFormatsCard

/-- THE SECOND FORM's CARD OF 'padlocklaw02.RoomParses'. -/
def roomParsesUptoCard : Claim7 := { stood := { row := roomParsesUptoRow, standIns := [], harness := (true, "1da686ef83c8d1eb36e46d7a83acad393e5a19f5a3fe850798a9d87c1f4356b5"), looks := true }, kinds := [], alts := [], laidByText := true, laidKinds := [.data, .data, .data, .data, .sentinel, .sentinel, .widerDeep, .widerDeep, .pinned], laidTests := true, laidLooks := .later }
def RoomParsesUptoCardSaid : Prop := Claim7.holds Tryz.pinned (.plain (OpenSpec.upto roomParsesSpec)) roomParsesUptoCard

/-- THE SECOND FORM's CARD OF 'padlocklaw02.RoomFormats'. -/
def roomFormatsUptoCard : Claim7 := { stood := { row := roomFormatsUptoRow, standIns := [], harness := (true, "1da686ef83c8d1eb36e46d7a83acad393e5a19f5a3fe850798a9d87c1f4356b5"), looks := true }, kinds := [], alts := [], laidByText := true, laidKinds := [.data, .data, .data, .data, .sentinel, .sentinel, .widerDeep, .widerDeep, .pinned], laidTests := true, laidLooks := .later }
def RoomFormatsUptoCardSaid : Prop := Claim7.holds Tryz.pinned (.plain (OpenSpec.upto roomFormatsSpec)) roomFormatsUptoCard
end Rows
end Go.Proofs.YtkekjhcmephhjaaGreatDoor
