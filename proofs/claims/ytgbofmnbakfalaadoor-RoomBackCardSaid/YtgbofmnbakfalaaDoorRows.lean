/-
  NARROWER THAN 'FOR EVERY INPUT', by the rows' own cells (each row's printed sentence says how): RoomChecks: laid · RoomLegal: laid · RoomSteps: laid · RoomSettles: laid · RoomMoves: laid · RoomHolds: laid · RoomRuns: laid · RoomBack: laid · RoomLooks: laid.
  DERIVED. THE GIVEN ROWS OF THIS SEAT. 9 by the template 'for every input the law returns true; each argument reads behind the call as it read before'; 0 by the template 'total and deterministic' (their statements: YtgbofmnbakfalaaDoorTotals.lean).
  GIVEN WITH THE SEED: the statements are not yours to turn. If you find one false, say at which input.
  Laid BY PROGRAM, IN A SANDBOX (cutbox-rows.mjs): the forced cells as the released guide's own fill.sh prints them over the translation 0875000b4cb0594e… (all of the seat's roots in one cut). By AI agents, Wed Nov 11 2026. No macro, syntax, notation, axiom, sorry.
-/
import Derived.Test.YtgbofmnbakfalaaDoorChecked
import GoSem.Claim
import GoSem.ClaimJoined
import GoSem.ClaimMapViews
import Derived.JoinedTies
import Derived.KernelRfl
namespace Go.Proofs.YtgbofmnbakfalaaDoor
/- THE CELL 'sum', in the pinned program and in every row, IS THE sha256 OF THE DUMP (.gsa) THAT YtgbofmnbakfalaaDoorProg.lean LOADS. Nothing in Lean hashes anything: it is a label: what it is worth is what the hold of that sum in a sandbox is worth. -/
noncomputable def Tryd.pinned : Pinned := { name := "ytgbofmnbakfalaadoor", sum := "0875000b4cb0594e800cbbcbea3bffcdf5e167980ede4d30b28ca236e9ff18e7", checked := Tryd.checked }
namespace Rows
def none {H : Type} : Left H := { results := [], args := [] }

/- WHAT THE LISTED PACKAGE-LEVEL VARIABLES READ AS WHEN THE CALL BEGINS. Each datum BY PROGRAM (the guide's laid-datum.mjs) off the statement by which the dump's own 'gosem.cut.vars' lays the variable. In a bare row this is a premise. The card (YtgbofmnbakfalaaDoorCards.lean) ties it to the program's text. -/
def laid_padlock_room_reserved {H : Type} : DataW H := .slice [.lit (.string [97, 116]), .lit (.string [115, 116, 97, 116, 101, 115]), .lit (.string [115, 116, 97, 114, 116]), .lit (.string [103, 111, 110, 101]), .lit (.string [105, 102]), .lit (.string [108, 111, 99, 107]), .lit (.string [119, 105, 116, 104]), .lit (.string [115, 101, 116, 115]), .lit (.string [115, 112, 101, 110, 100, 115]), .lit (.string [98, 114, 105, 110, 103, 115])] []

/-- 'padlocklaw02.RoomChecks': WHATEVER THE INPUT: true; the input reads as it did. -/
def roomChecksSpec : ChangeSpec := { name := "roomChecks", fn := fun _ => fun
  | [d] => { results := [.lit (.bool true)], args := [d] }
  | _ => none }
def roomChecksRow : OpenClaim := { program := "ytgbofmnbakfalaadoor", sum := "0875000b4cb0594e800cbbcbea3bffcdf5e167980ede4d30b28ca236e9ff18e7", func := "padlock/padlocklaw02.RoomChecks", spec := "roomChecks", unfollowed := true, recurses := true, named := ["padlock/room.reserved"], apart := false, laid := [("padlock/room.reserved", laid_padlock_room_reserved)] }
def RoomChecksSaid : Prop := roomChecksRow.holds Tryd.pinned (OpenSpec.ofChange roomChecksSpec)

/-- ITS FALSE NEIGHBOUR: 'it returns false'. Refute it at one input. -/
def roomChecksWrong : ChangeSpec := { name := "roomChecks", fn := fun _ => fun
  | [d] => { results := [.lit (.bool false)], args := [d] }
  | _ => none }
def RoomChecksWrongFalsely : Prop := roomChecksRow.holds Tryd.pinned (OpenSpec.ofChange roomChecksWrong)

/-- 'padlocklaw02.RoomLegal': WHATEVER THE INPUT: true; the input reads as it did. -/
def roomLegalSpec : ChangeSpec := { name := "roomLegal", fn := fun _ => fun
  | [d1, d2] => { results := [.lit (.bool true)], args := [d1, d2] }
  | _ => none }
def roomLegalRow : OpenClaim := { program := "ytgbofmnbakfalaadoor", sum := "0875000b4cb0594e800cbbcbea3bffcdf5e167980ede4d30b28ca236e9ff18e7", func := "padlock/padlocklaw02.RoomLegal", spec := "roomLegal", unfollowed := true, recurses := true, named := ["padlock/room.reserved"], apart := false, laid := [("padlock/room.reserved", laid_padlock_room_reserved)] }
def RoomLegalSaid : Prop := roomLegalRow.holds Tryd.pinned (OpenSpec.ofChange roomLegalSpec)

/-- ITS FALSE NEIGHBOUR: 'it returns false'. Refute it at one input. -/
def roomLegalWrong : ChangeSpec := { name := "roomLegal", fn := fun _ => fun
  | [d1, d2] => { results := [.lit (.bool false)], args := [d1, d2] }
  | _ => none }
def RoomLegalWrongFalsely : Prop := roomLegalRow.holds Tryd.pinned (OpenSpec.ofChange roomLegalWrong)

/-- 'padlocklaw02.RoomSteps': WHATEVER THE INPUT: true; the input reads as it did. -/
def roomStepsSpec : ChangeSpec := { name := "roomSteps", fn := fun _ => fun
  | [d1, d2, d3] => { results := [.lit (.bool true)], args := [d1, d2, d3] }
  | _ => none }
def roomStepsRow : OpenClaim := { program := "ytgbofmnbakfalaadoor", sum := "0875000b4cb0594e800cbbcbea3bffcdf5e167980ede4d30b28ca236e9ff18e7", func := "padlock/padlocklaw02.RoomSteps", spec := "roomSteps", unfollowed := true, recurses := true, named := ["padlock/room.reserved"], apart := false, laid := [("padlock/room.reserved", laid_padlock_room_reserved)] }
def RoomStepsSaid : Prop := roomStepsRow.holds Tryd.pinned (OpenSpec.ofChange roomStepsSpec)

/-- ITS FALSE NEIGHBOUR: 'it returns false'. Refute it at one input. -/
def roomStepsWrong : ChangeSpec := { name := "roomSteps", fn := fun _ => fun
  | [d1, d2, d3] => { results := [.lit (.bool false)], args := [d1, d2, d3] }
  | _ => none }
def RoomStepsWrongFalsely : Prop := roomStepsRow.holds Tryd.pinned (OpenSpec.ofChange roomStepsWrong)

/-- 'padlocklaw02.RoomSettles': WHATEVER THE INPUT: true; the input reads as it did. -/
def roomSettlesSpec : ChangeSpec := { name := "roomSettles", fn := fun _ => fun
  | [d1, d2] => { results := [.lit (.bool true)], args := [d1, d2] }
  | _ => none }
def roomSettlesRow : OpenClaim := { program := "ytgbofmnbakfalaadoor", sum := "0875000b4cb0594e800cbbcbea3bffcdf5e167980ede4d30b28ca236e9ff18e7", func := "padlock/padlocklaw02.RoomSettles", spec := "roomSettles", unfollowed := true, recurses := true, named := ["padlock/room.reserved"], apart := false, laid := [("padlock/room.reserved", laid_padlock_room_reserved)] }
def RoomSettlesSaid : Prop := roomSettlesRow.holds Tryd.pinned (OpenSpec.ofChange roomSettlesSpec)

/-- ITS FALSE NEIGHBOUR: 'it returns false'. Refute it at one input. -/
def roomSettlesWrong : ChangeSpec := { name := "roomSettles", fn := fun _ => fun
  | [d1, d2] => { results := [.lit (.bool false)], args := [d1, d2] }
  | _ => none }
def RoomSettlesWrongFalsely : Prop := roomSettlesRow.holds Tryd.pinned (OpenSpec.ofChange roomSettlesWrong)

/-- 'padlocklaw02.RoomMoves': WHATEVER THE INPUT: true; the input reads as it did. -/
def roomMovesSpec : ChangeSpec := { name := "roomMoves", fn := fun _ => fun
  | [d1, d2, d3] => { results := [.lit (.bool true)], args := [d1, d2, d3] }
  | _ => none }
def roomMovesRow : OpenClaim := { program := "ytgbofmnbakfalaadoor", sum := "0875000b4cb0594e800cbbcbea3bffcdf5e167980ede4d30b28ca236e9ff18e7", func := "padlock/padlocklaw02.RoomMoves", spec := "roomMoves", unfollowed := true, recurses := true, named := ["padlock/room.reserved"], apart := false, laid := [("padlock/room.reserved", laid_padlock_room_reserved)] }
def RoomMovesSaid : Prop := roomMovesRow.holds Tryd.pinned (OpenSpec.ofChange roomMovesSpec)

/-- ITS FALSE NEIGHBOUR: 'it returns false'. Refute it at one input. -/
def roomMovesWrong : ChangeSpec := { name := "roomMoves", fn := fun _ => fun
  | [d1, d2, d3] => { results := [.lit (.bool false)], args := [d1, d2, d3] }
  | _ => none }
def RoomMovesWrongFalsely : Prop := roomMovesRow.holds Tryd.pinned (OpenSpec.ofChange roomMovesWrong)

/-- 'padlocklaw02.RoomHolds': WHATEVER THE INPUT: true; the input reads as it did. -/
def roomHoldsSpec : ChangeSpec := { name := "roomHolds", fn := fun _ => fun
  | [d1, d2, d3] => { results := [.lit (.bool true)], args := [d1, d2, d3] }
  | _ => none }
def roomHoldsRow : OpenClaim := { program := "ytgbofmnbakfalaadoor", sum := "0875000b4cb0594e800cbbcbea3bffcdf5e167980ede4d30b28ca236e9ff18e7", func := "padlock/padlocklaw02.RoomHolds", spec := "roomHolds", unfollowed := true, recurses := true, named := ["padlock/room.reserved"], apart := false, laid := [("padlock/room.reserved", laid_padlock_room_reserved)] }
def RoomHoldsSaid : Prop := roomHoldsRow.holds Tryd.pinned (OpenSpec.ofChange roomHoldsSpec)

/-- ITS FALSE NEIGHBOUR: 'it returns false'. Refute it at one input. -/
def roomHoldsWrong : ChangeSpec := { name := "roomHolds", fn := fun _ => fun
  | [d1, d2, d3] => { results := [.lit (.bool false)], args := [d1, d2, d3] }
  | _ => none }
def RoomHoldsWrongFalsely : Prop := roomHoldsRow.holds Tryd.pinned (OpenSpec.ofChange roomHoldsWrong)

/-- 'padlocklaw02.RoomRuns': WHATEVER THE INPUT: true; the input reads as it did. -/
def roomRunsSpec : ChangeSpec := { name := "roomRuns", fn := fun _ => fun
  | [d1, d2, d3] => { results := [.lit (.bool true)], args := [d1, d2, d3] }
  | _ => none }
def roomRunsRow : OpenClaim := { program := "ytgbofmnbakfalaadoor", sum := "0875000b4cb0594e800cbbcbea3bffcdf5e167980ede4d30b28ca236e9ff18e7", func := "padlock/padlocklaw02.RoomRuns", spec := "roomRuns", unfollowed := true, recurses := true, named := ["padlock/room.reserved"], apart := false, laid := [("padlock/room.reserved", laid_padlock_room_reserved)] }
def RoomRunsSaid : Prop := roomRunsRow.holds Tryd.pinned (OpenSpec.ofChange roomRunsSpec)

/-- ITS FALSE NEIGHBOUR: 'it returns false'. Refute it at one input. -/
def roomRunsWrong : ChangeSpec := { name := "roomRuns", fn := fun _ => fun
  | [d1, d2, d3] => { results := [.lit (.bool false)], args := [d1, d2, d3] }
  | _ => none }
def RoomRunsWrongFalsely : Prop := roomRunsRow.holds Tryd.pinned (OpenSpec.ofChange roomRunsWrong)

/-- 'padlocklaw02.RoomBack': WHATEVER THE INPUT: true; the input reads as it did. -/
def roomBackSpec : ChangeSpec := { name := "roomBack", fn := fun _ => fun
  | [d1, d2, d3] => { results := [.lit (.bool true)], args := [d1, d2, d3] }
  | _ => none }
def roomBackRow : OpenClaim := { program := "ytgbofmnbakfalaadoor", sum := "0875000b4cb0594e800cbbcbea3bffcdf5e167980ede4d30b28ca236e9ff18e7", func := "padlock/padlocklaw02.RoomBack", spec := "roomBack", unfollowed := true, recurses := true, named := ["padlock/room.reserved"], apart := false, laid := [("padlock/room.reserved", laid_padlock_room_reserved)] }
def RoomBackSaid : Prop := roomBackRow.holds Tryd.pinned (OpenSpec.ofChange roomBackSpec)

/-- ITS FALSE NEIGHBOUR: 'it returns false'. Refute it at one input. -/
def roomBackWrong : ChangeSpec := { name := "roomBack", fn := fun _ => fun
  | [d1, d2, d3] => { results := [.lit (.bool false)], args := [d1, d2, d3] }
  | _ => none }
def RoomBackWrongFalsely : Prop := roomBackRow.holds Tryd.pinned (OpenSpec.ofChange roomBackWrong)

/-- 'padlocklaw02.RoomLooks': WHATEVER THE INPUT: true; the input reads as it did. -/
def roomLooksSpec : ChangeSpec := { name := "roomLooks", fn := fun _ => fun
  | [d1, d2, d3] => { results := [.lit (.bool true)], args := [d1, d2, d3] }
  | _ => none }
def roomLooksRow : OpenClaim := { program := "ytgbofmnbakfalaadoor", sum := "0875000b4cb0594e800cbbcbea3bffcdf5e167980ede4d30b28ca236e9ff18e7", func := "padlock/padlocklaw02.RoomLooks", spec := "roomLooks", unfollowed := true, recurses := true, named := ["padlock/room.reserved"], apart := false, laid := [("padlock/room.reserved", laid_padlock_room_reserved)] }
def RoomLooksSaid : Prop := roomLooksRow.holds Tryd.pinned (OpenSpec.ofChange roomLooksSpec)

/-- ITS FALSE NEIGHBOUR: 'it returns false'. Refute it at one input. -/
def roomLooksWrong : ChangeSpec := { name := "roomLooks", fn := fun _ => fun
  | [d1, d2, d3] => { results := [.lit (.bool false)], args := [d1, d2, d3] }
  | _ => none }
def RoomLooksWrongFalsely : Prop := roomLooksRow.holds Tryd.pinned (OpenSpec.ofChange roomLooksWrong)

/- THE SECOND FORM. 'bulk': how many values and letters a reading holds, each counted each time it is reached (what is shared counts as often as it is met; a slice's spare places count too). A statement '..UptoSaid' is the law's where the arguments, and the package variables that the reading takes, are together of bulk at most 1048576: NARROWER than '..Said'. Prove '..Said' where nothing that the law and all that it calls make is longer than what came in: it says more and counts as full. Else prove '..UptoSaid'. A law counts once. -/
mutual
def uptoBulk {H : Type} : DataW H → Nat
  | .lit (.string bytes) => bytes.length + 1
  | .lit _ => 1
  | .nil => 1
  | .ptr d => uptoBulk d + 1
  | .slice elems spare => uptoBulkAll elems + uptoBulkAll spare + 1
  | .agg parts => uptoBulkAll parts + 1
  | .iface _ d => uptoBulk d + 1
  | .map entries => uptoBulkEntries entries + 1
  | .held _ => 1
def uptoBulkAll {H : Type} : List (DataW H) → Nat
  | [] => 0
  | d :: r => uptoBulk d + uptoBulkAll r
def uptoBulkEntries {H : Type} : List (Lit × DataW H) → Nat
  | [] => 0
  | x :: r => uptoBulkEntry x + uptoBulkEntries r
def uptoBulkEntry {H : Type} : Lit × DataW H → Nat
  | (.string bytes, d) => bytes.length + uptoBulk d + 1
  | (_, d) => uptoBulk d + 1
 end
def uptoSmall : (H : Type) → List (DataW H) → Bool := fun _ ds => decide (uptoBulkAll ds ≤ 1048576)
def OpenSpec.upto (s : _root_.Go.ChangeSpec) : _root_.Go.OpenSpec := { _root_.Go.OpenSpec.ofChange s with cond := some uptoSmall }

/-- 'padlocklaw02.RoomChecks', WHERE WHAT IT READS IS OF BULK AT MOST 1048576: true; the input reads as it did. -/
def roomChecksUptoRow : OpenClaim := { program := "ytgbofmnbakfalaadoor", sum := "0875000b4cb0594e800cbbcbea3bffcdf5e167980ede4d30b28ca236e9ff18e7", func := "padlock/padlocklaw02.RoomChecks", spec := "roomChecks", unfollowed := true, recurses := true, named := ["padlock/room.reserved"], apart := false, laid := [("padlock/room.reserved", laid_padlock_room_reserved)], narrowed := true }
def RoomChecksUptoSaid : Prop := roomChecksUptoRow.holds Tryd.pinned (OpenSpec.upto roomChecksSpec)

/-- 'padlocklaw02.RoomLegal', WHERE WHAT IT READS IS OF BULK AT MOST 1048576: true; the input reads as it did. -/
def roomLegalUptoRow : OpenClaim := { program := "ytgbofmnbakfalaadoor", sum := "0875000b4cb0594e800cbbcbea3bffcdf5e167980ede4d30b28ca236e9ff18e7", func := "padlock/padlocklaw02.RoomLegal", spec := "roomLegal", unfollowed := true, recurses := true, named := ["padlock/room.reserved"], apart := false, laid := [("padlock/room.reserved", laid_padlock_room_reserved)], narrowed := true }
def RoomLegalUptoSaid : Prop := roomLegalUptoRow.holds Tryd.pinned (OpenSpec.upto roomLegalSpec)

/-- 'padlocklaw02.RoomSteps', WHERE WHAT IT READS IS OF BULK AT MOST 1048576: true; the input reads as it did. -/
def roomStepsUptoRow : OpenClaim := { program := "ytgbofmnbakfalaadoor", sum := "0875000b4cb0594e800cbbcbea3bffcdf5e167980ede4d30b28ca236e9ff18e7", func := "padlock/padlocklaw02.RoomSteps", spec := "roomSteps", unfollowed := true, recurses := true, named := ["padlock/room.reserved"], apart := false, laid := [("padlock/room.reserved", laid_padlock_room_reserved)], narrowed := true }
def RoomStepsUptoSaid : Prop := roomStepsUptoRow.holds Tryd.pinned (OpenSpec.upto roomStepsSpec)

/-- 'padlocklaw02.RoomSettles', WHERE WHAT IT READS IS OF BULK AT MOST 1048576: true; the input reads as it did. -/
def roomSettlesUptoRow : OpenClaim := { program := "ytgbofmnbakfalaadoor", sum := "0875000b4cb0594e800cbbcbea3bffcdf5e167980ede4d30b28ca236e9ff18e7", func := "padlock/padlocklaw02.RoomSettles", spec := "roomSettles", unfollowed := true, recurses := true, named := ["padlock/room.reserved"], apart := false, laid := [("padlock/room.reserved", laid_padlock_room_reserved)], narrowed := true }
def RoomSettlesUptoSaid : Prop := roomSettlesUptoRow.holds Tryd.pinned (OpenSpec.upto roomSettlesSpec)

/-- 'padlocklaw02.RoomMoves', WHERE WHAT IT READS IS OF BULK AT MOST 1048576: true; the input reads as it did. -/
def roomMovesUptoRow : OpenClaim := { program := "ytgbofmnbakfalaadoor", sum := "0875000b4cb0594e800cbbcbea3bffcdf5e167980ede4d30b28ca236e9ff18e7", func := "padlock/padlocklaw02.RoomMoves", spec := "roomMoves", unfollowed := true, recurses := true, named := ["padlock/room.reserved"], apart := false, laid := [("padlock/room.reserved", laid_padlock_room_reserved)], narrowed := true }
def RoomMovesUptoSaid : Prop := roomMovesUptoRow.holds Tryd.pinned (OpenSpec.upto roomMovesSpec)

/-- 'padlocklaw02.RoomHolds', WHERE WHAT IT READS IS OF BULK AT MOST 1048576: true; the input reads as it did. -/
def roomHoldsUptoRow : OpenClaim := { program := "ytgbofmnbakfalaadoor", sum := "0875000b4cb0594e800cbbcbea3bffcdf5e167980ede4d30b28ca236e9ff18e7", func := "padlock/padlocklaw02.RoomHolds", spec := "roomHolds", unfollowed := true, recurses := true, named := ["padlock/room.reserved"], apart := false, laid := [("padlock/room.reserved", laid_padlock_room_reserved)], narrowed := true }
def RoomHoldsUptoSaid : Prop := roomHoldsUptoRow.holds Tryd.pinned (OpenSpec.upto roomHoldsSpec)

/-- 'padlocklaw02.RoomRuns', WHERE WHAT IT READS IS OF BULK AT MOST 1048576: true; the input reads as it did. -/
def roomRunsUptoRow : OpenClaim := { program := "ytgbofmnbakfalaadoor", sum := "0875000b4cb0594e800cbbcbea3bffcdf5e167980ede4d30b28ca236e9ff18e7", func := "padlock/padlocklaw02.RoomRuns", spec := "roomRuns", unfollowed := true, recurses := true, named := ["padlock/room.reserved"], apart := false, laid := [("padlock/room.reserved", laid_padlock_room_reserved)], narrowed := true }
def RoomRunsUptoSaid : Prop := roomRunsUptoRow.holds Tryd.pinned (OpenSpec.upto roomRunsSpec)

/-- 'padlocklaw02.RoomBack', WHERE WHAT IT READS IS OF BULK AT MOST 1048576: true; the input reads as it did. -/
def roomBackUptoRow : OpenClaim := { program := "ytgbofmnbakfalaadoor", sum := "0875000b4cb0594e800cbbcbea3bffcdf5e167980ede4d30b28ca236e9ff18e7", func := "padlock/padlocklaw02.RoomBack", spec := "roomBack", unfollowed := true, recurses := true, named := ["padlock/room.reserved"], apart := false, laid := [("padlock/room.reserved", laid_padlock_room_reserved)], narrowed := true }
def RoomBackUptoSaid : Prop := roomBackUptoRow.holds Tryd.pinned (OpenSpec.upto roomBackSpec)

/-- 'padlocklaw02.RoomLooks', WHERE WHAT IT READS IS OF BULK AT MOST 1048576: true; the input reads as it did. -/
def roomLooksUptoRow : OpenClaim := { program := "ytgbofmnbakfalaadoor", sum := "0875000b4cb0594e800cbbcbea3bffcdf5e167980ede4d30b28ca236e9ff18e7", func := "padlock/padlocklaw02.RoomLooks", spec := "roomLooks", unfollowed := true, recurses := true, named := ["padlock/room.reserved"], apart := false, laid := [("padlock/room.reserved", laid_padlock_room_reserved)], narrowed := true }
def RoomLooksUptoSaid : Prop := roomLooksUptoRow.holds Tryd.pinned (OpenSpec.upto roomLooksSpec)

end Rows
end Go.Proofs.YtgbofmnbakfalaaDoor
