/-
  DERIVED. GIVEN WITH THE SEED: THE CARDS: each row of YtgbofmnbakfalaaDoorRows.lean that lists a variable, with what it lists TIED to the program's text (the seventh form; the later family's looks); each row that meets fmt, with fmt's text TOLD by the authors' own Lean function (tested against real Go, not proved from fmt's source: count such statements apart). THE CARD IS WHAT COUNTS. Prove the row's statement (the work); the ties are given (YtgbofmnbakfalaaDoorTie.lean); close each card by the builder's one call (the guide's Derived/Test/ToyasCard.lean, 'card_holds'). Laid BY PROGRAM, IN A SANDBOX (cutbox-door.mjs). By AI agents, Wed Nov 11 2026. No macro, syntax, notation, axiom, sorry.
-/
import Derived.Test.YtgbofmnbakfalaaDoorRows
import GoSem.ClaimSeven
namespace Go.Proofs.YtgbofmnbakfalaaDoor
namespace Rows

/-- THE TIED CARD OF 'padlocklaw02.RoomChecks'. -/
def roomChecksCard : Claim7 := { stood := { row := roomChecksRow, standIns := [], harness := (true, "9a6eea81deba0f969066e5af963742bd3c01718befb0e8a448fe6be126c1535a"), looks := false }, kinds := [], alts := [], laidByText := true, laidKinds := [.widerDeep], laidTests := true, laidLooks := .later }
def RoomChecksCardSaid : Prop := Claim7.holds Tryd.pinned (.plain (OpenSpec.ofChange roomChecksSpec)) roomChecksCard

/-- THE TIED CARD OF 'padlocklaw02.RoomLegal'. -/
def roomLegalCard : Claim7 := { stood := { row := roomLegalRow, standIns := [], harness := (true, "9a6eea81deba0f969066e5af963742bd3c01718befb0e8a448fe6be126c1535a"), looks := false }, kinds := [], alts := [], laidByText := true, laidKinds := [.widerDeep], laidTests := true, laidLooks := .later }
def RoomLegalCardSaid : Prop := Claim7.holds Tryd.pinned (.plain (OpenSpec.ofChange roomLegalSpec)) roomLegalCard

/-- THE TIED CARD OF 'padlocklaw02.RoomSteps'. -/
def roomStepsCard : Claim7 := { stood := { row := roomStepsRow, standIns := [], harness := (true, "9a6eea81deba0f969066e5af963742bd3c01718befb0e8a448fe6be126c1535a"), looks := false }, kinds := [], alts := [], laidByText := true, laidKinds := [.widerDeep], laidTests := true, laidLooks := .later }
def RoomStepsCardSaid : Prop := Claim7.holds Tryd.pinned (.plain (OpenSpec.ofChange roomStepsSpec)) roomStepsCard

/-- THE TIED CARD OF 'padlocklaw02.RoomSettles'. -/
def roomSettlesCard : Claim7 := { stood := { row := roomSettlesRow, standIns := [], harness := (true, "9a6eea81deba0f969066e5af963742bd3c01718befb0e8a448fe6be126c1535a"), looks := false }, kinds := [], alts := [], laidByText := true, laidKinds := [.widerDeep], laidTests := true, laidLooks := .later }
def RoomSettlesCardSaid : Prop := Claim7.holds Tryd.pinned (.plain (OpenSpec.ofChange roomSettlesSpec)) roomSettlesCard

/-- THE TIED CARD OF 'padlocklaw02.RoomMoves'. -/
def roomMovesCard : Claim7 := { stood := { row := roomMovesRow, standIns := [], harness := (true, "9a6eea81deba0f969066e5af963742bd3c01718befb0e8a448fe6be126c1535a"), looks := false }, kinds := [], alts := [], laidByText := true, laidKinds := [.widerDeep], laidTests := true, laidLooks := .later }
def RoomMovesCardSaid : Prop := Claim7.holds Tryd.pinned (.plain (OpenSpec.ofChange roomMovesSpec)) roomMovesCard

/-- THE TIED CARD OF 'padlocklaw02.RoomHolds'. -/
def roomHoldsCard : Claim7 := { stood := { row := roomHoldsRow, standIns := [], harness := (true, "9a6eea81deba0f969066e5af963742bd3c01718befb0e8a448fe6be126c1535a"), looks := false }, kinds := [], alts := [], laidByText := true, laidKinds := [.widerDeep], laidTests := true, laidLooks := .later }
def RoomHoldsCardSaid : Prop := Claim7.holds Tryd.pinned (.plain (OpenSpec.ofChange roomHoldsSpec)) roomHoldsCard

/-- THE TIED CARD OF 'padlocklaw02.RoomRuns'. -/
def roomRunsCard : Claim7 := { stood := { row := roomRunsRow, standIns := [], harness := (true, "9a6eea81deba0f969066e5af963742bd3c01718befb0e8a448fe6be126c1535a"), looks := false }, kinds := [], alts := [], laidByText := true, laidKinds := [.widerDeep], laidTests := true, laidLooks := .later }
def RoomRunsCardSaid : Prop := Claim7.holds Tryd.pinned (.plain (OpenSpec.ofChange roomRunsSpec)) roomRunsCard

/-- THE TIED CARD OF 'padlocklaw02.RoomBack'. -/
def roomBackCard : Claim7 := { stood := { row := roomBackRow, standIns := [], harness := (true, "9a6eea81deba0f969066e5af963742bd3c01718befb0e8a448fe6be126c1535a"), looks := false }, kinds := [], alts := [], laidByText := true, laidKinds := [.widerDeep], laidTests := true, laidLooks := .later }
def RoomBackCardSaid : Prop := Claim7.holds Tryd.pinned (.plain (OpenSpec.ofChange roomBackSpec)) roomBackCard

/-- THE TIED CARD OF 'padlocklaw02.RoomLooks'. -/
def roomLooksCard : Claim7 := { stood := { row := roomLooksRow, standIns := [], harness := (true, "9a6eea81deba0f969066e5af963742bd3c01718befb0e8a448fe6be126c1535a"), looks := false }, kinds := [], alts := [], laidByText := true, laidKinds := [.widerDeep], laidTests := true, laidLooks := .later }
def RoomLooksCardSaid : Prop := Claim7.holds Tryd.pinned (.plain (OpenSpec.ofChange roomLooksSpec)) roomLooksCard

/-- THE SECOND FORM's CARD OF 'padlocklaw02.RoomChecks'. -/
def roomChecksUptoCard : Claim7 := { stood := { row := roomChecksUptoRow, standIns := [], harness := (true, "9a6eea81deba0f969066e5af963742bd3c01718befb0e8a448fe6be126c1535a"), looks := false }, kinds := [], alts := [], laidByText := true, laidKinds := [.widerDeep], laidTests := true, laidLooks := .later }
def RoomChecksUptoCardSaid : Prop := Claim7.holds Tryd.pinned (.plain (OpenSpec.upto roomChecksSpec)) roomChecksUptoCard

/-- THE SECOND FORM's CARD OF 'padlocklaw02.RoomLegal'. -/
def roomLegalUptoCard : Claim7 := { stood := { row := roomLegalUptoRow, standIns := [], harness := (true, "9a6eea81deba0f969066e5af963742bd3c01718befb0e8a448fe6be126c1535a"), looks := false }, kinds := [], alts := [], laidByText := true, laidKinds := [.widerDeep], laidTests := true, laidLooks := .later }
def RoomLegalUptoCardSaid : Prop := Claim7.holds Tryd.pinned (.plain (OpenSpec.upto roomLegalSpec)) roomLegalUptoCard

/-- THE SECOND FORM's CARD OF 'padlocklaw02.RoomSteps'. -/
def roomStepsUptoCard : Claim7 := { stood := { row := roomStepsUptoRow, standIns := [], harness := (true, "9a6eea81deba0f969066e5af963742bd3c01718befb0e8a448fe6be126c1535a"), looks := false }, kinds := [], alts := [], laidByText := true, laidKinds := [.widerDeep], laidTests := true, laidLooks := .later }
def RoomStepsUptoCardSaid : Prop := Claim7.holds Tryd.pinned (.plain (OpenSpec.upto roomStepsSpec)) roomStepsUptoCard

/-- THE SECOND FORM's CARD OF 'padlocklaw02.RoomSettles'. -/
def roomSettlesUptoCard : Claim7 := { stood := { row := roomSettlesUptoRow, standIns := [], harness := (true, "9a6eea81deba0f969066e5af963742bd3c01718befb0e8a448fe6be126c1535a"), looks := false }, kinds := [], alts := [], laidByText := true, laidKinds := [.widerDeep], laidTests := true, laidLooks := .later }
def RoomSettlesUptoCardSaid : Prop := Claim7.holds Tryd.pinned (.plain (OpenSpec.upto roomSettlesSpec)) roomSettlesUptoCard

/-- THE SECOND FORM's CARD OF 'padlocklaw02.RoomMoves'. -/
def roomMovesUptoCard : Claim7 := { stood := { row := roomMovesUptoRow, standIns := [], harness := (true, "9a6eea81deba0f969066e5af963742bd3c01718befb0e8a448fe6be126c1535a"), looks := false }, kinds := [], alts := [], laidByText := true, laidKinds := [.widerDeep], laidTests := true, laidLooks := .later }
def RoomMovesUptoCardSaid : Prop := Claim7.holds Tryd.pinned (.plain (OpenSpec.upto roomMovesSpec)) roomMovesUptoCard

/-- THE SECOND FORM's CARD OF 'padlocklaw02.RoomHolds'. -/
def roomHoldsUptoCard : Claim7 := { stood := { row := roomHoldsUptoRow, standIns := [], harness := (true, "9a6eea81deba0f969066e5af963742bd3c01718befb0e8a448fe6be126c1535a"), looks := false }, kinds := [], alts := [], laidByText := true, laidKinds := [.widerDeep], laidTests := true, laidLooks := .later }
def RoomHoldsUptoCardSaid : Prop := Claim7.holds Tryd.pinned (.plain (OpenSpec.upto roomHoldsSpec)) roomHoldsUptoCard

/-- THE SECOND FORM's CARD OF 'padlocklaw02.RoomRuns'. -/
def roomRunsUptoCard : Claim7 := { stood := { row := roomRunsUptoRow, standIns := [], harness := (true, "9a6eea81deba0f969066e5af963742bd3c01718befb0e8a448fe6be126c1535a"), looks := false }, kinds := [], alts := [], laidByText := true, laidKinds := [.widerDeep], laidTests := true, laidLooks := .later }
def RoomRunsUptoCardSaid : Prop := Claim7.holds Tryd.pinned (.plain (OpenSpec.upto roomRunsSpec)) roomRunsUptoCard

/-- THE SECOND FORM's CARD OF 'padlocklaw02.RoomBack'. -/
def roomBackUptoCard : Claim7 := { stood := { row := roomBackUptoRow, standIns := [], harness := (true, "9a6eea81deba0f969066e5af963742bd3c01718befb0e8a448fe6be126c1535a"), looks := false }, kinds := [], alts := [], laidByText := true, laidKinds := [.widerDeep], laidTests := true, laidLooks := .later }
def RoomBackUptoCardSaid : Prop := Claim7.holds Tryd.pinned (.plain (OpenSpec.upto roomBackSpec)) roomBackUptoCard

/-- THE SECOND FORM's CARD OF 'padlocklaw02.RoomLooks'. -/
def roomLooksUptoCard : Claim7 := { stood := { row := roomLooksUptoRow, standIns := [], harness := (true, "9a6eea81deba0f969066e5af963742bd3c01718befb0e8a448fe6be126c1535a"), looks := false }, kinds := [], alts := [], laidByText := true, laidKinds := [.widerDeep], laidTests := true, laidLooks := .later }
def RoomLooksUptoCardSaid : Prop := Claim7.holds Tryd.pinned (.plain (OpenSpec.upto roomLooksSpec)) roomLooksUptoCard
end Rows
end Go.Proofs.YtgbofmnbakfalaaDoor
