/-
  DERIVED. GIVEN WITH THE SEED: THE CARDS: each row of YtaeagngfhceceaaGreatDoorRows.lean that lists a variable, with what it lists TIED to the program's text (the seventh form; the later family's looks); each row that meets fmt, with fmt's text TOLD by the authors' own Lean function (tested against real Go, not proved from fmt's source: count such statements apart). THE CARD IS WHAT COUNTS. Prove the row's statement (the work); the ties are given (YtaeagngfhceceaaGreatDoorTie.lean); close each card by the builder's one call (the guide's Derived/Test/ToyasCard.lean, 'card_holds'). Laid BY PROGRAM, IN A SANDBOX (cutbox-door.mjs). By AI agents, Wed Nov 11 2026. No macro, syntax, notation, axiom, sorry.
-/
import Derived.Test.YtaeagngfhceceaaGreatDoorRows
import GoSem.ClaimSeven
namespace Go.Proofs.YtaeagngfhceceaaGreatDoor
namespace Rows

/-- THE TIED CARD OF 'padlocktop.TopClues'. -/
def topCluesCard : Claim7 := { stood := { row := topCluesRow, standIns := [], harness := (true, "d6f71de39442d2818fcd46bbefcc35924a1ed5ec2ff9ee81d8cb38a58824c922"), looks := false }, kinds := [], alts := [], laidByText := true, laidKinds := [.widerDeep], laidTests := true, laidLooks := .later }
def TopCluesCardSaid : Prop := Claim7.holds Tryz.pinned (.plain (OpenSpec.ofChange topCluesSpec)) topCluesCard

/-- THE TIED CARD OF 'padlocklaw04.PlayCan'. -/
def playCanCard : Claim7 := { stood := { row := playCanRow, standIns := [], harness := (true, "d6f71de39442d2818fcd46bbefcc35924a1ed5ec2ff9ee81d8cb38a58824c922"), looks := false }, kinds := [], alts := [], laidByText := true, laidKinds := [.widerDeep], laidTests := true, laidLooks := .later }
def PlayCanCardSaid : Prop := Claim7.holds Tryz.pinned (.plain (OpenSpec.ofChange playCanSpec)) playCanCard

/-- THE TIED CARD OF 'padlocklaw04.PlayClues'. -/
def playCluesCard : Claim7 := { stood := { row := playCluesRow, standIns := [], harness := (true, "d6f71de39442d2818fcd46bbefcc35924a1ed5ec2ff9ee81d8cb38a58824c922"), looks := false }, kinds := [], alts := [], laidByText := true, laidKinds := [.widerDeep], laidTests := true, laidLooks := .later }
def PlayCluesCardSaid : Prop := Claim7.holds Tryz.pinned (.plain (OpenSpec.ofChange playCluesSpec)) playCluesCard

/-- THE TIED CARD OF 'padlocklaw04.PlayOpens'. -/
def playOpensCard : Claim7 := { stood := { row := playOpensRow, standIns := [], harness := (true, "d6f71de39442d2818fcd46bbefcc35924a1ed5ec2ff9ee81d8cb38a58824c922"), looks := false }, kinds := [], alts := [], laidByText := true, laidKinds := [.widerDeep], laidTests := true, laidLooks := .later }
def PlayOpensCardSaid : Prop := Claim7.holds Tryz.pinned (.plain (OpenSpec.ofChange playOpensSpec)) playOpensCard

/-- THE TIED CARD OF 'padlocklaw04.PlayRuns'. -/
def playRunsCard : Claim7 := { stood := { row := playRunsRow, standIns := [], harness := (true, "d6f71de39442d2818fcd46bbefcc35924a1ed5ec2ff9ee81d8cb38a58824c922"), looks := false }, kinds := [], alts := [], laidByText := true, laidKinds := [.widerDeep], laidTests := true, laidLooks := .later }
def PlayRunsCardSaid : Prop := Claim7.holds Tryz.pinned (.plain (OpenSpec.ofChange playRunsSpec)) playRunsCard

/-- THE TIED CARD OF 'padlocklaw04.PlayChecks'. -/
def playChecksCard : Claim7 := { stood := { row := playChecksRow, standIns := [], harness := (true, "d6f71de39442d2818fcd46bbefcc35924a1ed5ec2ff9ee81d8cb38a58824c922"), looks := false }, kinds := [], alts := [], laidByText := true, laidKinds := [.widerDeep], laidTests := true, laidLooks := .later }
def PlayChecksCardSaid : Prop := Claim7.holds Tryz.pinned (.plain (OpenSpec.ofChange playChecksSpec)) playChecksCard

/-- THE TIED CARD OF 'padlocklaw04.PlayKnows'. -/
def playKnowsCard : Claim7 := { stood := { row := playKnowsRow, standIns := [], harness := (true, "d6f71de39442d2818fcd46bbefcc35924a1ed5ec2ff9ee81d8cb38a58824c922"), looks := false }, kinds := [], alts := [], laidByText := true, laidKinds := [.widerDeep], laidTests := true, laidLooks := .later }
def PlayKnowsCardSaid : Prop := Claim7.holds Tryz.pinned (.plain (OpenSpec.ofChange playKnowsSpec)) playKnowsCard

/-- THE TIED CARD OF 'padlocklaw04.PlaySteps'. -/
def playStepsCard : Claim7 := { stood := { row := playStepsRow, standIns := [], harness := (true, "d6f71de39442d2818fcd46bbefcc35924a1ed5ec2ff9ee81d8cb38a58824c922"), looks := false }, kinds := [], alts := [], laidByText := true, laidKinds := [.widerDeep], laidTests := true, laidLooks := .later }
def PlayStepsCardSaid : Prop := Claim7.holds Tryz.pinned (.plain (OpenSpec.ofChange playStepsSpec)) playStepsCard

/-- THE TIED CARD OF 'padlocklaw04.PlayPossible'. -/
def playPossibleCard : Claim7 := { stood := { row := playPossibleRow, standIns := [], harness := (true, "d6f71de39442d2818fcd46bbefcc35924a1ed5ec2ff9ee81d8cb38a58824c922"), looks := false }, kinds := [], alts := [], laidByText := true, laidKinds := [.widerDeep], laidTests := true, laidLooks := .later }
def PlayPossibleCardSaid : Prop := Claim7.holds Tryz.pinned (.plain (OpenSpec.ofChange playPossibleSpec)) playPossibleCard

/-- THE TIED CARD OF 'padlocklaw04.PlayNeeds'. -/
def playNeedsCard : Claim7 := { stood := { row := playNeedsRow, standIns := [], harness := (true, "d6f71de39442d2818fcd46bbefcc35924a1ed5ec2ff9ee81d8cb38a58824c922"), looks := false }, kinds := [], alts := [], laidByText := true, laidKinds := [.widerDeep], laidTests := true, laidLooks := .later }
def PlayNeedsCardSaid : Prop := Claim7.holds Tryz.pinned (.plain (OpenSpec.ofChange playNeedsSpec)) playNeedsCard

/-- THE TIED CARD OF 'padlocklaw04.PlayEnough'. -/
def playEnoughCard : Claim7 := { stood := { row := playEnoughRow, standIns := [], harness := (true, "d6f71de39442d2818fcd46bbefcc35924a1ed5ec2ff9ee81d8cb38a58824c922"), looks := false }, kinds := [], alts := [], laidByText := true, laidKinds := [.widerDeep], laidTests := true, laidLooks := .later }
def PlayEnoughCardSaid : Prop := Claim7.holds Tryz.pinned (.plain (OpenSpec.ofChange playEnoughSpec)) playEnoughCard

/-- THE SECOND FORM's CARD OF 'padlocktop.TopClues'. -/
def topCluesUptoCard : Claim7 := { stood := { row := topCluesUptoRow, standIns := [], harness := (true, "d6f71de39442d2818fcd46bbefcc35924a1ed5ec2ff9ee81d8cb38a58824c922"), looks := false }, kinds := [], alts := [], laidByText := true, laidKinds := [.widerDeep], laidTests := true, laidLooks := .later }
def TopCluesUptoCardSaid : Prop := Claim7.holds Tryz.pinned (.plain (OpenSpec.upto topCluesSpec)) topCluesUptoCard

/-- THE SECOND FORM's CARD OF 'padlocklaw04.PlayCan'. -/
def playCanUptoCard : Claim7 := { stood := { row := playCanUptoRow, standIns := [], harness := (true, "d6f71de39442d2818fcd46bbefcc35924a1ed5ec2ff9ee81d8cb38a58824c922"), looks := false }, kinds := [], alts := [], laidByText := true, laidKinds := [.widerDeep], laidTests := true, laidLooks := .later }
def PlayCanUptoCardSaid : Prop := Claim7.holds Tryz.pinned (.plain (OpenSpec.upto playCanSpec)) playCanUptoCard

/-- THE SECOND FORM's CARD OF 'padlocklaw04.PlayClues'. -/
def playCluesUptoCard : Claim7 := { stood := { row := playCluesUptoRow, standIns := [], harness := (true, "d6f71de39442d2818fcd46bbefcc35924a1ed5ec2ff9ee81d8cb38a58824c922"), looks := false }, kinds := [], alts := [], laidByText := true, laidKinds := [.widerDeep], laidTests := true, laidLooks := .later }
def PlayCluesUptoCardSaid : Prop := Claim7.holds Tryz.pinned (.plain (OpenSpec.upto playCluesSpec)) playCluesUptoCard

/-- THE SECOND FORM's CARD OF 'padlocklaw04.PlayOpens'. -/
def playOpensUptoCard : Claim7 := { stood := { row := playOpensUptoRow, standIns := [], harness := (true, "d6f71de39442d2818fcd46bbefcc35924a1ed5ec2ff9ee81d8cb38a58824c922"), looks := false }, kinds := [], alts := [], laidByText := true, laidKinds := [.widerDeep], laidTests := true, laidLooks := .later }
def PlayOpensUptoCardSaid : Prop := Claim7.holds Tryz.pinned (.plain (OpenSpec.upto playOpensSpec)) playOpensUptoCard

/-- THE SECOND FORM's CARD OF 'padlocklaw04.PlayRuns'. -/
def playRunsUptoCard : Claim7 := { stood := { row := playRunsUptoRow, standIns := [], harness := (true, "d6f71de39442d2818fcd46bbefcc35924a1ed5ec2ff9ee81d8cb38a58824c922"), looks := false }, kinds := [], alts := [], laidByText := true, laidKinds := [.widerDeep], laidTests := true, laidLooks := .later }
def PlayRunsUptoCardSaid : Prop := Claim7.holds Tryz.pinned (.plain (OpenSpec.upto playRunsSpec)) playRunsUptoCard

/-- THE SECOND FORM's CARD OF 'padlocklaw04.PlayChecks'. -/
def playChecksUptoCard : Claim7 := { stood := { row := playChecksUptoRow, standIns := [], harness := (true, "d6f71de39442d2818fcd46bbefcc35924a1ed5ec2ff9ee81d8cb38a58824c922"), looks := false }, kinds := [], alts := [], laidByText := true, laidKinds := [.widerDeep], laidTests := true, laidLooks := .later }
def PlayChecksUptoCardSaid : Prop := Claim7.holds Tryz.pinned (.plain (OpenSpec.upto playChecksSpec)) playChecksUptoCard

/-- THE SECOND FORM's CARD OF 'padlocklaw04.PlayKnows'. -/
def playKnowsUptoCard : Claim7 := { stood := { row := playKnowsUptoRow, standIns := [], harness := (true, "d6f71de39442d2818fcd46bbefcc35924a1ed5ec2ff9ee81d8cb38a58824c922"), looks := false }, kinds := [], alts := [], laidByText := true, laidKinds := [.widerDeep], laidTests := true, laidLooks := .later }
def PlayKnowsUptoCardSaid : Prop := Claim7.holds Tryz.pinned (.plain (OpenSpec.upto playKnowsSpec)) playKnowsUptoCard

/-- THE SECOND FORM's CARD OF 'padlocklaw04.PlaySteps'. -/
def playStepsUptoCard : Claim7 := { stood := { row := playStepsUptoRow, standIns := [], harness := (true, "d6f71de39442d2818fcd46bbefcc35924a1ed5ec2ff9ee81d8cb38a58824c922"), looks := false }, kinds := [], alts := [], laidByText := true, laidKinds := [.widerDeep], laidTests := true, laidLooks := .later }
def PlayStepsUptoCardSaid : Prop := Claim7.holds Tryz.pinned (.plain (OpenSpec.upto playStepsSpec)) playStepsUptoCard

/-- THE SECOND FORM's CARD OF 'padlocklaw04.PlayPossible'. -/
def playPossibleUptoCard : Claim7 := { stood := { row := playPossibleUptoRow, standIns := [], harness := (true, "d6f71de39442d2818fcd46bbefcc35924a1ed5ec2ff9ee81d8cb38a58824c922"), looks := false }, kinds := [], alts := [], laidByText := true, laidKinds := [.widerDeep], laidTests := true, laidLooks := .later }
def PlayPossibleUptoCardSaid : Prop := Claim7.holds Tryz.pinned (.plain (OpenSpec.upto playPossibleSpec)) playPossibleUptoCard

/-- THE SECOND FORM's CARD OF 'padlocklaw04.PlayNeeds'. -/
def playNeedsUptoCard : Claim7 := { stood := { row := playNeedsUptoRow, standIns := [], harness := (true, "d6f71de39442d2818fcd46bbefcc35924a1ed5ec2ff9ee81d8cb38a58824c922"), looks := false }, kinds := [], alts := [], laidByText := true, laidKinds := [.widerDeep], laidTests := true, laidLooks := .later }
def PlayNeedsUptoCardSaid : Prop := Claim7.holds Tryz.pinned (.plain (OpenSpec.upto playNeedsSpec)) playNeedsUptoCard

/-- THE SECOND FORM's CARD OF 'padlocklaw04.PlayEnough'. -/
def playEnoughUptoCard : Claim7 := { stood := { row := playEnoughUptoRow, standIns := [], harness := (true, "d6f71de39442d2818fcd46bbefcc35924a1ed5ec2ff9ee81d8cb38a58824c922"), looks := false }, kinds := [], alts := [], laidByText := true, laidKinds := [.widerDeep], laidTests := true, laidLooks := .later }
def PlayEnoughUptoCardSaid : Prop := Claim7.holds Tryz.pinned (.plain (OpenSpec.upto playEnoughSpec)) playEnoughUptoCard
end Rows
end Go.Proofs.YtaeagngfhceceaaGreatDoor
