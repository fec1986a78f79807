/-
  DERIVED. GIVEN WITH THE SEED: THE CARDS: each row of YtohneogdekdboaaGreatDoorRows.lean that lists a variable, with what it lists TIED to the program's text (the seventh form; the later family's looks); each row that meets fmt, with fmt's text TOLD by the authors' own Lean function (tested against real Go, not proved from fmt's source: count such statements apart). THE CARD IS WHAT COUNTS. Prove the row's statement (the work); the ties are given (YtohneogdekdboaaGreatDoorTie.lean); close each card by the builder's one call (the guide's Derived/Test/ToyasCard.lean, 'card_holds'). Laid BY PROGRAM, IN A SANDBOX (cutbox-door.mjs). By AI agents, Wed Nov 11 2026. No macro, syntax, notation, axiom, sorry.
-/
import Derived.Test.YtohneogdekdboaaGreatDoorRows
import GoSem.ClaimSeven
namespace Go.Proofs.YtohneogdekdboaaGreatDoor
namespace Rows

/-- THE TIED CARD OF 'padlocklaw12.RecordRecords'. -/
def recordRecordsCard : Claim7 := { stood := { row := recordRecordsRow, standIns := [], harness := (true, "6ba0bab29e1409fa1284d55df0d0845f7bff8f93e6b5e797eca9a17f1bbe3c90"), looks := false }, kinds := [], alts := [], laidByText := true, laidKinds := [.widerDeep], laidTests := true, laidLooks := .later }
def RecordRecordsCardSaid : Prop := Claim7.holds Tryz.pinned (.plain (OpenSpec.ofChange recordRecordsSpec)) recordRecordsCard

/-- THE TIED CARD OF 'padlocklaw12.RecordChecks'. -/
def recordChecksCard : Claim7 := { stood := { row := recordChecksRow, standIns := [], harness := (true, "6ba0bab29e1409fa1284d55df0d0845f7bff8f93e6b5e797eca9a17f1bbe3c90"), looks := false }, kinds := [], alts := [], laidByText := true, laidKinds := [.widerDeep], laidTests := true, laidLooks := .later }
def RecordChecksCardSaid : Prop := Claim7.holds Tryz.pinned (.plain (OpenSpec.ofChange recordChecksSpec)) recordChecksCard

/-- THE TIED CARD OF 'padlocklaw12.RecordScores'. -/
def recordScoresCard : Claim7 := { stood := { row := recordScoresRow, standIns := [], harness := (true, "6ba0bab29e1409fa1284d55df0d0845f7bff8f93e6b5e797eca9a17f1bbe3c90"), looks := false }, kinds := [], alts := [], laidByText := true, laidKinds := [.widerDeep], laidTests := true, laidLooks := .later }
def RecordScoresCardSaid : Prop := Claim7.holds Tryz.pinned (.plain (OpenSpec.ofChange recordScoresSpec)) recordScoresCard

/-- THE TIED CARD OF 'padlocklaw12.RecordReplays'. -/
def recordReplaysCard : Claim7 := { stood := { row := recordReplaysRow, standIns := [], harness := (true, "6ba0bab29e1409fa1284d55df0d0845f7bff8f93e6b5e797eca9a17f1bbe3c90"), looks := false }, kinds := [], alts := [], laidByText := true, laidKinds := [.widerDeep], laidTests := true, laidLooks := .later }
def RecordReplaysCardSaid : Prop := Claim7.holds Tryz.pinned (.plain (OpenSpec.ofChange recordReplaysSpec)) recordReplaysCard

/-- THE TIED CARD OF 'padlocklaw12.RecordTrue'. -/
def recordTrueCard : Claim7 := { stood := { row := recordTrueRow, standIns := [], harness := (true, "6ba0bab29e1409fa1284d55df0d0845f7bff8f93e6b5e797eca9a17f1bbe3c90"), looks := false }, kinds := [], alts := [], laidByText := true, laidKinds := [.widerDeep], laidTests := true, laidLooks := .later }
def RecordTrueCardSaid : Prop := Claim7.holds Tryz.pinned (.plain (OpenSpec.ofChange recordTrueSpec)) recordTrueCard

/-- THE TIED CARD OF 'padlocklaw12.RecordSame'. -/
def recordSameCard : Claim7 := { stood := { row := recordSameRow, standIns := [], harness := (true, "6ba0bab29e1409fa1284d55df0d0845f7bff8f93e6b5e797eca9a17f1bbe3c90"), looks := false }, kinds := [], alts := [], laidByText := true, laidKinds := [.widerDeep], laidTests := true, laidLooks := .later }
def RecordSameCardSaid : Prop := Claim7.holds Tryz.pinned (.plain (OpenSpec.ofChange recordSameSpec)) recordSameCard

/-- THE SECOND FORM's CARD OF 'padlocklaw12.RecordRecords'. -/
def recordRecordsUptoCard : Claim7 := { stood := { row := recordRecordsUptoRow, standIns := [], harness := (true, "6ba0bab29e1409fa1284d55df0d0845f7bff8f93e6b5e797eca9a17f1bbe3c90"), looks := false }, kinds := [], alts := [], laidByText := true, laidKinds := [.widerDeep], laidTests := true, laidLooks := .later }
def RecordRecordsUptoCardSaid : Prop := Claim7.holds Tryz.pinned (.plain (OpenSpec.upto recordRecordsSpec)) recordRecordsUptoCard

/-- THE SECOND FORM's CARD OF 'padlocklaw12.RecordChecks'. -/
def recordChecksUptoCard : Claim7 := { stood := { row := recordChecksUptoRow, standIns := [], harness := (true, "6ba0bab29e1409fa1284d55df0d0845f7bff8f93e6b5e797eca9a17f1bbe3c90"), looks := false }, kinds := [], alts := [], laidByText := true, laidKinds := [.widerDeep], laidTests := true, laidLooks := .later }
def RecordChecksUptoCardSaid : Prop := Claim7.holds Tryz.pinned (.plain (OpenSpec.upto recordChecksSpec)) recordChecksUptoCard

/-- THE SECOND FORM's CARD OF 'padlocklaw12.RecordScores'. -/
def recordScoresUptoCard : Claim7 := { stood := { row := recordScoresUptoRow, standIns := [], harness := (true, "6ba0bab29e1409fa1284d55df0d0845f7bff8f93e6b5e797eca9a17f1bbe3c90"), looks := false }, kinds := [], alts := [], laidByText := true, laidKinds := [.widerDeep], laidTests := true, laidLooks := .later }
def RecordScoresUptoCardSaid : Prop := Claim7.holds Tryz.pinned (.plain (OpenSpec.upto recordScoresSpec)) recordScoresUptoCard

/-- THE SECOND FORM's CARD OF 'padlocklaw12.RecordReplays'. -/
def recordReplaysUptoCard : Claim7 := { stood := { row := recordReplaysUptoRow, standIns := [], harness := (true, "6ba0bab29e1409fa1284d55df0d0845f7bff8f93e6b5e797eca9a17f1bbe3c90"), looks := false }, kinds := [], alts := [], laidByText := true, laidKinds := [.widerDeep], laidTests := true, laidLooks := .later }
def RecordReplaysUptoCardSaid : Prop := Claim7.holds Tryz.pinned (.plain (OpenSpec.upto recordReplaysSpec)) recordReplaysUptoCard

/-- THE SECOND FORM's CARD OF 'padlocklaw12.RecordTrue'. -/
def recordTrueUptoCard : Claim7 := { stood := { row := recordTrueUptoRow, standIns := [], harness := (true, "6ba0bab29e1409fa1284d55df0d0845f7bff8f93e6b5e797eca9a17f1bbe3c90"), looks := false }, kinds := [], alts := [], laidByText := true, laidKinds := [.widerDeep], laidTests := true, laidLooks := .later }
def RecordTrueUptoCardSaid : Prop := Claim7.holds Tryz.pinned (.plain (OpenSpec.upto recordTrueSpec)) recordTrueUptoCard

/-- THE SECOND FORM's CARD OF 'padlocklaw12.RecordSame'. -/
def recordSameUptoCard : Claim7 := { stood := { row := recordSameUptoRow, standIns := [], harness := (true, "6ba0bab29e1409fa1284d55df0d0845f7bff8f93e6b5e797eca9a17f1bbe3c90"), looks := false }, kinds := [], alts := [], laidByText := true, laidKinds := [.widerDeep], laidTests := true, laidLooks := .later }
def RecordSameUptoCardSaid : Prop := Claim7.holds Tryz.pinned (.plain (OpenSpec.upto recordSameSpec)) recordSameUptoCard
end Rows
end Go.Proofs.YtohneogdekdboaaGreatDoor
