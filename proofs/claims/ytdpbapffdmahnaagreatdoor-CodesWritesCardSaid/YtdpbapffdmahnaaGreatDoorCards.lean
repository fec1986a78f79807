/-
  DERIVED. GIVEN WITH THE SEED: THE CARDS: each row of YtdpbapffdmahnaaGreatDoorRows.lean that lists a variable, with what it lists TIED to the program's text (the seventh form; the later family's looks); each row that meets fmt, with fmt's text TOLD by the authors' own Lean function (tested against real Go, not proved from fmt's source: count such statements apart). THE CARD IS WHAT COUNTS. Prove the row's statement (the work); the ties are given (YtdpbapffdmahnaaGreatDoorTie.lean); close each card by the builder's one call (the guide's Derived/Test/ToyasCard.lean, 'card_holds'). Laid BY PROGRAM, IN A SANDBOX (cutbox-door.mjs). By AI agents, Wed Nov 11 2026. No macro, syntax, notation, axiom, sorry.
-/
import Derived.Test.YtdpbapffdmahnaaGreatDoorRows
import GoSem.ClaimSeven
namespace Go.Proofs.YtdpbapffdmahnaaGreatDoor
namespace Rows

/-- THE TIED CARD OF 'padlocklaw02.RoomShows'. -/
def roomShowsCard : Claim7 := { stood := { row := roomShowsRow, standIns := [], harness := (true, "053617055d583a362f6f508b926281926e184b4aeeac6771cf8cd91eadbfd520"), looks := true }, kinds := [], alts := [], laidByText := true, laidKinds := [.data, .data, .data, .widerDeep], laidTests := true, laidLooks := .later }
def RoomShowsCardSaid : Prop := Claim7.holds Tryz.pinned (.plain (OpenSpec.ofChange roomShowsSpec)) roomShowsCard

/-- THE TIED CARD OF 'padlocklaw01.CodesParses'. -/
def codesParsesCard : Claim7 := { stood := { row := codesParsesRow, standIns := [], harness := (true, "053617055d583a362f6f508b926281926e184b4aeeac6771cf8cd91eadbfd520"), looks := true }, kinds := [], alts := [], laidByText := true, laidKinds := [.data, .data, .data, .data, .sentinel, .sentinel, .widerDeep, .pinned], laidTests := true, laidLooks := .later }
def CodesParsesCardSaid : Prop := Claim7.holds Tryz.pinned (.plain (OpenSpec.ofChange codesParsesSpec)) codesParsesCard

/-- THE TIED CARD OF 'padlocklaw01.CodesWrites'. -/
def codesWritesCard : Claim7 := { stood := { row := codesWritesRow, standIns := [], harness := (true, "053617055d583a362f6f508b926281926e184b4aeeac6771cf8cd91eadbfd520"), looks := true }, kinds := [], alts := [], laidByText := true, laidKinds := [.data, .data, .data, .data, .sentinel, .sentinel, .widerDeep, .pinned], laidTests := true, laidLooks := .later }
def CodesWritesCardSaid : Prop := Claim7.holds Tryz.pinned (.plain (OpenSpec.ofChange codesWritesSpec)) codesWritesCard

/-- THE SECOND FORM's CARD OF 'padlocklaw02.RoomShows'. -/
def roomShowsUptoCard : Claim7 := { stood := { row := roomShowsUptoRow, standIns := [], harness := (true, "053617055d583a362f6f508b926281926e184b4aeeac6771cf8cd91eadbfd520"), looks := true }, kinds := [], alts := [], laidByText := true, laidKinds := [.data, .data, .data, .widerDeep], laidTests := true, laidLooks := .later }
def RoomShowsUptoCardSaid : Prop := Claim7.holds Tryz.pinned (.plain (OpenSpec.upto roomShowsSpec)) roomShowsUptoCard

/-- THE SECOND FORM's CARD OF 'padlocklaw01.CodesParses'. -/
def codesParsesUptoCard : Claim7 := { stood := { row := codesParsesUptoRow, standIns := [], harness := (true, "053617055d583a362f6f508b926281926e184b4aeeac6771cf8cd91eadbfd520"), looks := true }, kinds := [], alts := [], laidByText := true, laidKinds := [.data, .data, .data, .data, .sentinel, .sentinel, .widerDeep, .pinned], laidTests := true, laidLooks := .later }
def CodesParsesUptoCardSaid : Prop := Claim7.holds Tryz.pinned (.plain (OpenSpec.upto codesParsesSpec)) codesParsesUptoCard

/-- THE SECOND FORM's CARD OF 'padlocklaw01.CodesWrites'. -/
def codesWritesUptoCard : Claim7 := { stood := { row := codesWritesUptoRow, standIns := [], harness := (true, "053617055d583a362f6f508b926281926e184b4aeeac6771cf8cd91eadbfd520"), looks := true }, kinds := [], alts := [], laidByText := true, laidKinds := [.data, .data, .data, .data, .sentinel, .sentinel, .widerDeep, .pinned], laidTests := true, laidLooks := .later }
def CodesWritesUptoCardSaid : Prop := Claim7.holds Tryz.pinned (.plain (OpenSpec.upto codesWritesSpec)) codesWritesUptoCard
end Rows
end Go.Proofs.YtdpbapffdmahnaaGreatDoor
