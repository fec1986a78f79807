/-
  DERIVED. GIVEN WITH THE SEED: THE CARDS: each row of YtmoojmgihdgceaaGreatDoorRows.lean that lists a variable, with what it lists TIED to the program's text (the seventh form; the later family's looks); each row that meets fmt, with fmt's text TOLD by the authors' own Lean function (tested against real Go, not proved from fmt's source: count such statements apart). THE CARD IS WHAT COUNTS. Prove the row's statement (the work); the ties are given (YtmoojmgihdgceaaGreatDoorTie.lean); close each card by the builder's one call (the guide's Derived/Test/ToyasCard.lean, 'card_holds'). Laid BY PROGRAM, IN A SANDBOX (cutbox-door.mjs). By AI agents, Wed Nov 11 2026. No macro, syntax, notation, axiom, sorry.
-/
import Derived.Test.YtmoojmgihdgceaaGreatDoorRows
import GoSem.ClaimSeven
namespace Go.Proofs.YtmoojmgihdgceaaGreatDoor
namespace Rows

/-- THE TIED CARD OF 'padlocktop.TopRecorded'. -/
def topRecordedCard : Claim7 := { stood := { row := topRecordedRow, standIns := [], harness := (true, "071da577ef991ade555c0894154efb4158dc19028c95e2aafd422bf62a7cb2a8"), looks := false }, kinds := [], alts := [], laidByText := true, laidKinds := [.data, .data, .data, .widerDeep], laidTests := true, laidLooks := .later }
def TopRecordedCardSaid : Prop := Claim7.holds Tryz.pinned (.plain (OpenSpec.ofChange topRecordedSpec)) topRecordedCard

/-- THE TIED CARD OF 'padlocklaw12.RecordWastes'. -/
def recordWastesCard : Claim7 := { stood := { row := recordWastesRow, standIns := [], harness := (true, "071da577ef991ade555c0894154efb4158dc19028c95e2aafd422bf62a7cb2a8"), looks := false }, kinds := [], alts := [], laidByText := true, laidKinds := [.data, .data, .data, .widerDeep], laidTests := true, laidLooks := .later }
def RecordWastesCardSaid : Prop := Claim7.holds Tryz.pinned (.plain (OpenSpec.ofChange recordWastesSpec)) recordWastesCard

/-- THE SECOND FORM's CARD OF 'padlocktop.TopRecorded'. -/
def topRecordedUptoCard : Claim7 := { stood := { row := topRecordedUptoRow, standIns := [], harness := (true, "071da577ef991ade555c0894154efb4158dc19028c95e2aafd422bf62a7cb2a8"), looks := false }, kinds := [], alts := [], laidByText := true, laidKinds := [.data, .data, .data, .widerDeep], laidTests := true, laidLooks := .later }
def TopRecordedUptoCardSaid : Prop := Claim7.holds Tryz.pinned (.plain (OpenSpec.upto topRecordedSpec)) topRecordedUptoCard

/-- THE SECOND FORM's CARD OF 'padlocklaw12.RecordWastes'. -/
def recordWastesUptoCard : Claim7 := { stood := { row := recordWastesUptoRow, standIns := [], harness := (true, "071da577ef991ade555c0894154efb4158dc19028c95e2aafd422bf62a7cb2a8"), looks := false }, kinds := [], alts := [], laidByText := true, laidKinds := [.data, .data, .data, .widerDeep], laidTests := true, laidLooks := .later }
def RecordWastesUptoCardSaid : Prop := Claim7.holds Tryz.pinned (.plain (OpenSpec.upto recordWastesSpec)) recordWastesUptoCard
end Rows
end Go.Proofs.YtmoojmgihdgceaaGreatDoor
