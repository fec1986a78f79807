/-
  NARROWER THAN 'FOR EVERY INPUT', by the rows' own cells (each row's printed sentence says how): TopClues: laid · PlayCan: laid · PlayClues: laid · PlayOpens: laid · PlayRuns: laid · PlayChecks: laid · PlayKnows: laid · PlaySteps: laid · PlayPossible: laid · PlayNeeds: laid · PlayEnough: laid.
  DERIVED. THE GIVEN ROWS OF THIS SEAT. 11 by the template 'for every input the law returns true; each argument reads behind the call as it read before'; 0 by the template 'total and deterministic' (their statements: YtaeagngfhceceaaGreatDoorTotals.lean).
  GIVEN WITH THE SEED: the statements are not yours to turn. If you find one false, say at which input.
  Laid BY PROGRAM, IN A SANDBOX (cutbox-rows.mjs): the forced cells as the released guide's own fill.sh prints them over the translation f4b6495bcc1dbb43… (all of the seat's roots in one cut). By AI agents, Wed Nov 11 2026. No macro, syntax, notation, axiom, sorry.
-/
import Derived.Test.YtaeagngfhceceaaGreatDoorChecked
import GoSem.Claim
import GoSem.ClaimJoined
import GoSem.ClaimMapViews
import Derived.JoinedTies
import Derived.KernelRfl
namespace Go.Proofs.YtaeagngfhceceaaGreatDoor
/- THE CELL 'sum', in the pinned program and in every row, IS THE sha256 OF THE DUMP (.gsa) THAT YtaeagngfhceceaaGreatDoorProg.lean LOADS. Nothing in Lean hashes anything: it is a label: what it is worth is what the hold of that sum in a sandbox is worth. -/
noncomputable def Tryz.pinned : Pinned := { name := "ytaeagngfhceceaagreatdoor", sum := "f4b6495bcc1dbb435f5b1c2598ab9be9ade685a5a11e5f0ce83e71a58699a079", checked := Tryz.checked }
namespace Rows
def none {H : Type} : Left H := { results := [], args := [] }

/- WHAT THE LISTED PACKAGE-LEVEL VARIABLES READ AS WHEN THE CALL BEGINS. Each datum BY PROGRAM (the guide's laid-datum.mjs) off the statement by which the dump's own 'gosem.cut.vars' lays the variable. In a bare row this is a premise. The card (YtaeagngfhceceaaGreatDoorCards.lean) ties it to the program's text. -/
def laid_padlock_room_reserved {H : Type} : DataW H := .slice [.lit (.string [97, 116]), .lit (.string [115, 116, 97, 116, 101, 115]), .lit (.string [115, 116, 97, 114, 116]), .lit (.string [103, 111, 110, 101]), .lit (.string [105, 102]), .lit (.string [108, 111, 99, 107]), .lit (.string [119, 105, 116, 104]), .lit (.string [115, 101, 116, 115]), .lit (.string [115, 112, 101, 110, 100, 115]), .lit (.string [98, 114, 105, 110, 103, 115])] []

/-- 'padlocktop.TopClues': WHATEVER THE INPUT: true; the input reads as it did. -/
def topCluesSpec : ChangeSpec := { name := "topClues", fn := fun _ => fun
  | [d1, d2] => { results := [.lit (.bool true)], args := [d1, d2] }
  | _ => none }
def topCluesRow : OpenClaim := { program := "ytaeagngfhceceaagreatdoor", sum := "f4b6495bcc1dbb435f5b1c2598ab9be9ade685a5a11e5f0ce83e71a58699a079", func := "padlock/padlocktop.TopClues", spec := "topClues", unfollowed := true, recurses := true, named := ["padlock/room.reserved"], apart := false, laid := [("padlock/room.reserved", laid_padlock_room_reserved)] }
def TopCluesSaid : Prop := topCluesRow.holds Tryz.pinned (OpenSpec.ofChange topCluesSpec)

/-- ITS FALSE NEIGHBOUR: 'it returns false'. Refute it at one input. -/
def topCluesWrong : ChangeSpec := { name := "topClues", fn := fun _ => fun
  | [d1, d2] => { results := [.lit (.bool false)], args := [d1, d2] }
  | _ => none }
def TopCluesWrongFalsely : Prop := topCluesRow.holds Tryz.pinned (OpenSpec.ofChange topCluesWrong)

/-- 'padlocklaw04.PlayCan': WHATEVER THE INPUT: true; the input reads as it did. -/
def playCanSpec : ChangeSpec := { name := "playCan", fn := fun _ => fun
  | [d1, d2] => { results := [.lit (.bool true)], args := [d1, d2] }
  | _ => none }
def playCanRow : OpenClaim := { program := "ytaeagngfhceceaagreatdoor", sum := "f4b6495bcc1dbb435f5b1c2598ab9be9ade685a5a11e5f0ce83e71a58699a079", func := "padlock/padlocklaw04.PlayCan", spec := "playCan", unfollowed := true, recurses := true, named := ["padlock/room.reserved"], apart := false, laid := [("padlock/room.reserved", laid_padlock_room_reserved)] }
def PlayCanSaid : Prop := playCanRow.holds Tryz.pinned (OpenSpec.ofChange playCanSpec)

/-- ITS FALSE NEIGHBOUR: 'it returns false'. Refute it at one input. -/
def playCanWrong : ChangeSpec := { name := "playCan", fn := fun _ => fun
  | [d1, d2] => { results := [.lit (.bool false)], args := [d1, d2] }
  | _ => none }
def PlayCanWrongFalsely : Prop := playCanRow.holds Tryz.pinned (OpenSpec.ofChange playCanWrong)

/-- 'padlocklaw04.PlayClues': WHATEVER THE INPUT: true; the input reads as it did. -/
def playCluesSpec : ChangeSpec := { name := "playClues", fn := fun _ => fun
  | [d1, d2, d3] => { results := [.lit (.bool true)], args := [d1, d2, d3] }
  | _ => none }
def playCluesRow : OpenClaim := { program := "ytaeagngfhceceaagreatdoor", sum := "f4b6495bcc1dbb435f5b1c2598ab9be9ade685a5a11e5f0ce83e71a58699a079", func := "padlock/padlocklaw04.PlayClues", spec := "playClues", unfollowed := true, recurses := true, named := ["padlock/room.reserved"], apart := false, laid := [("padlock/room.reserved", laid_padlock_room_reserved)] }
def PlayCluesSaid : Prop := playCluesRow.holds Tryz.pinned (OpenSpec.ofChange playCluesSpec)

/-- ITS FALSE NEIGHBOUR: 'it returns false'. Refute it at one input. -/
def playCluesWrong : ChangeSpec := { name := "playClues", fn := fun _ => fun
  | [d1, d2, d3] => { results := [.lit (.bool false)], args := [d1, d2, d3] }
  | _ => none }
def PlayCluesWrongFalsely : Prop := playCluesRow.holds Tryz.pinned (OpenSpec.ofChange playCluesWrong)

/-- 'padlocklaw04.PlayOpens': WHATEVER THE INPUT: true; the input reads as it did. -/
def playOpensSpec : ChangeSpec := { name := "playOpens", fn := fun _ => fun
  | [d1, d2] => { results := [.lit (.bool true)], args := [d1, d2] }
  | _ => none }
def playOpensRow : OpenClaim := { program := "ytaeagngfhceceaagreatdoor", sum := "f4b6495bcc1dbb435f5b1c2598ab9be9ade685a5a11e5f0ce83e71a58699a079", func := "padlock/padlocklaw04.PlayOpens", spec := "playOpens", unfollowed := true, recurses := true, named := ["padlock/room.reserved"], apart := false, laid := [("padlock/room.reserved", laid_padlock_room_reserved)] }
def PlayOpensSaid : Prop := playOpensRow.holds Tryz.pinned (OpenSpec.ofChange playOpensSpec)

/-- ITS FALSE NEIGHBOUR: 'it returns false'. Refute it at one input. -/
def playOpensWrong : ChangeSpec := { name := "playOpens", fn := fun _ => fun
  | [d1, d2] => { results := [.lit (.bool false)], args := [d1, d2] }
  | _ => none }
def PlayOpensWrongFalsely : Prop := playOpensRow.holds Tryz.pinned (OpenSpec.ofChange playOpensWrong)

/-- 'padlocklaw04.PlayRuns': WHATEVER THE INPUT: true; the input reads as it did. -/
def playRunsSpec : ChangeSpec := { name := "playRuns", fn := fun _ => fun
  | [d1, d2, d3] => { results := [.lit (.bool true)], args := [d1, d2, d3] }
  | _ => none }
def playRunsRow : OpenClaim := { program := "ytaeagngfhceceaagreatdoor", sum := "f4b6495bcc1dbb435f5b1c2598ab9be9ade685a5a11e5f0ce83e71a58699a079", func := "padlock/padlocklaw04.PlayRuns", spec := "playRuns", unfollowed := true, recurses := true, named := ["padlock/room.reserved"], apart := false, laid := [("padlock/room.reserved", laid_padlock_room_reserved)] }
def PlayRunsSaid : Prop := playRunsRow.holds Tryz.pinned (OpenSpec.ofChange playRunsSpec)

/-- ITS FALSE NEIGHBOUR: 'it returns false'. Refute it at one input. -/
def playRunsWrong : ChangeSpec := { name := "playRuns", fn := fun _ => fun
  | [d1, d2, d3] => { results := [.lit (.bool false)], args := [d1, d2, d3] }
  | _ => none }
def PlayRunsWrongFalsely : Prop := playRunsRow.holds Tryz.pinned (OpenSpec.ofChange playRunsWrong)

/-- 'padlocklaw04.PlayChecks': WHATEVER THE INPUT: true; the input reads as it did. -/
def playChecksSpec : ChangeSpec := { name := "playChecks", fn := fun _ => fun
  | [d] => { results := [.lit (.bool true)], args := [d] }
  | _ => none }
def playChecksRow : OpenClaim := { program := "ytaeagngfhceceaagreatdoor", sum := "f4b6495bcc1dbb435f5b1c2598ab9be9ade685a5a11e5f0ce83e71a58699a079", func := "padlock/padlocklaw04.PlayChecks", spec := "playChecks", unfollowed := true, recurses := true, named := ["padlock/room.reserved"], apart := false, laid := [("padlock/room.reserved", laid_padlock_room_reserved)] }
def PlayChecksSaid : Prop := playChecksRow.holds Tryz.pinned (OpenSpec.ofChange playChecksSpec)

/-- ITS FALSE NEIGHBOUR: 'it returns false'. Refute it at one input. -/
def playChecksWrong : ChangeSpec := { name := "playChecks", fn := fun _ => fun
  | [d] => { results := [.lit (.bool false)], args := [d] }
  | _ => none }
def PlayChecksWrongFalsely : Prop := playChecksRow.holds Tryz.pinned (OpenSpec.ofChange playChecksWrong)

/-- 'padlocklaw04.PlayKnows': WHATEVER THE INPUT: true; the input reads as it did. -/
def playKnowsSpec : ChangeSpec := { name := "playKnows", fn := fun _ => fun
  | [d1, d2] => { results := [.lit (.bool true)], args := [d1, d2] }
  | _ => none }
def playKnowsRow : OpenClaim := { program := "ytaeagngfhceceaagreatdoor", sum := "f4b6495bcc1dbb435f5b1c2598ab9be9ade685a5a11e5f0ce83e71a58699a079", func := "padlock/padlocklaw04.PlayKnows", spec := "playKnows", unfollowed := true, recurses := true, named := ["padlock/room.reserved"], apart := false, laid := [("padlock/room.reserved", laid_padlock_room_reserved)] }
def PlayKnowsSaid : Prop := playKnowsRow.holds Tryz.pinned (OpenSpec.ofChange playKnowsSpec)

/-- ITS FALSE NEIGHBOUR: 'it returns false'. Refute it at one input. -/
def playKnowsWrong : ChangeSpec := { name := "playKnows", fn := fun _ => fun
  | [d1, d2] => { results := [.lit (.bool false)], args := [d1, d2] }
  | _ => none }
def PlayKnowsWrongFalsely : Prop := playKnowsRow.holds Tryz.pinned (OpenSpec.ofChange playKnowsWrong)

/-- 'padlocklaw04.PlaySteps': WHATEVER THE INPUT: true; the input reads as it did. -/
def playStepsSpec : ChangeSpec := { name := "playSteps", fn := fun _ => fun
  | [d1, d2, d3] => { results := [.lit (.bool true)], args := [d1, d2, d3] }
  | _ => none }
def playStepsRow : OpenClaim := { program := "ytaeagngfhceceaagreatdoor", sum := "f4b6495bcc1dbb435f5b1c2598ab9be9ade685a5a11e5f0ce83e71a58699a079", func := "padlock/padlocklaw04.PlaySteps", spec := "playSteps", unfollowed := true, recurses := true, named := ["padlock/room.reserved"], apart := false, laid := [("padlock/room.reserved", laid_padlock_room_reserved)] }
def PlayStepsSaid : Prop := playStepsRow.holds Tryz.pinned (OpenSpec.ofChange playStepsSpec)

/-- ITS FALSE NEIGHBOUR: 'it returns false'. Refute it at one input. -/
def playStepsWrong : ChangeSpec := { name := "playSteps", fn := fun _ => fun
  | [d1, d2, d3] => { results := [.lit (.bool false)], args := [d1, d2, d3] }
  | _ => none }
def PlayStepsWrongFalsely : Prop := playStepsRow.holds Tryz.pinned (OpenSpec.ofChange playStepsWrong)

/-- 'padlocklaw04.PlayPossible': WHATEVER THE INPUT: true; the input reads as it did. -/
def playPossibleSpec : ChangeSpec := { name := "playPossible", fn := fun _ => fun
  | [d1, d2, d3] => { results := [.lit (.bool true)], args := [d1, d2, d3] }
  | _ => none }
def playPossibleRow : OpenClaim := { program := "ytaeagngfhceceaagreatdoor", sum := "f4b6495bcc1dbb435f5b1c2598ab9be9ade685a5a11e5f0ce83e71a58699a079", func := "padlock/padlocklaw04.PlayPossible", spec := "playPossible", unfollowed := true, recurses := true, named := ["padlock/room.reserved"], apart := false, laid := [("padlock/room.reserved", laid_padlock_room_reserved)] }
def PlayPossibleSaid : Prop := playPossibleRow.holds Tryz.pinned (OpenSpec.ofChange playPossibleSpec)

/-- ITS FALSE NEIGHBOUR: 'it returns false'. Refute it at one input. -/
def playPossibleWrong : ChangeSpec := { name := "playPossible", fn := fun _ => fun
  | [d1, d2, d3] => { results := [.lit (.bool false)], args := [d1, d2, d3] }
  | _ => none }
def PlayPossibleWrongFalsely : Prop := playPossibleRow.holds Tryz.pinned (OpenSpec.ofChange playPossibleWrong)

/-- 'padlocklaw04.PlayNeeds': WHATEVER THE INPUT: true; the input reads as it did. -/
def playNeedsSpec : ChangeSpec := { name := "playNeeds", fn := fun _ => fun
  | [d1, d2] => { results := [.lit (.bool true)], args := [d1, d2] }
  | _ => none }
def playNeedsRow : OpenClaim := { program := "ytaeagngfhceceaagreatdoor", sum := "f4b6495bcc1dbb435f5b1c2598ab9be9ade685a5a11e5f0ce83e71a58699a079", func := "padlock/padlocklaw04.PlayNeeds", spec := "playNeeds", unfollowed := true, recurses := true, named := ["padlock/room.reserved"], apart := false, laid := [("padlock/room.reserved", laid_padlock_room_reserved)] }
def PlayNeedsSaid : Prop := playNeedsRow.holds Tryz.pinned (OpenSpec.ofChange playNeedsSpec)

/-- ITS FALSE NEIGHBOUR: 'it returns false'. Refute it at one input. -/
def playNeedsWrong : ChangeSpec := { name := "playNeeds", fn := fun _ => fun
  | [d1, d2] => { results := [.lit (.bool false)], args := [d1, d2] }
  | _ => none }
def PlayNeedsWrongFalsely : Prop := playNeedsRow.holds Tryz.pinned (OpenSpec.ofChange playNeedsWrong)

/-- 'padlocklaw04.PlayEnough': WHATEVER THE INPUT: true; the input reads as it did. -/
def playEnoughSpec : ChangeSpec := { name := "playEnough", fn := fun _ => fun
  | [d1, d2] => { results := [.lit (.bool true)], args := [d1, d2] }
  | _ => none }
def playEnoughRow : OpenClaim := { program := "ytaeagngfhceceaagreatdoor", sum := "f4b6495bcc1dbb435f5b1c2598ab9be9ade685a5a11e5f0ce83e71a58699a079", func := "padlock/padlocklaw04.PlayEnough", spec := "playEnough", unfollowed := true, recurses := true, named := ["padlock/room.reserved"], apart := false, laid := [("padlock/room.reserved", laid_padlock_room_reserved)] }
def PlayEnoughSaid : Prop := playEnoughRow.holds Tryz.pinned (OpenSpec.ofChange playEnoughSpec)

/-- ITS FALSE NEIGHBOUR: 'it returns false'. Refute it at one input. -/
def playEnoughWrong : ChangeSpec := { name := "playEnough", fn := fun _ => fun
  | [d1, d2] => { results := [.lit (.bool false)], args := [d1, d2] }
  | _ => none }
def PlayEnoughWrongFalsely : Prop := playEnoughRow.holds Tryz.pinned (OpenSpec.ofChange playEnoughWrong)

/- THE SECOND FORM. 'bulk': how many values and letters a reading holds, each counted each time it is reached (what is shared counts as often as it is met; a slice's spare places count too). A statement '..UptoSaid' is the law's where the arguments, and the package variables that the reading takes, are together of bulk at most 1048576: NARROWER than '..Said'. Prove '..Said' where nothing that the law and all that it calls make is longer than what came in: it says more and counts as full. Else prove '..UptoSaid'. A law counts once. -/
mutual
def uptoBulk {H : Type} : DataW H → Nat
  | .lit (.string bytes) => bytes.length + 1
  | .lit _ => 1
  | .nil => 1
  | .ptr d => uptoBulk d + 1
  | .slice elems spare => uptoBulkAll elems + uptoBulkAll spare + 1
  | .agg parts => uptoBulkAll parts + 1
  | .iface _ d => uptoBulk d + 1
  | .map entries => uptoBulkEntries entries + 1
  | .held _ => 1
def uptoBulkAll {H : Type} : List (DataW H) → Nat
  | [] => 0
  | d :: r => uptoBulk d + uptoBulkAll r
def uptoBulkEntries {H : Type} : List (Lit × DataW H) → Nat
  | [] => 0
  | x :: r => uptoBulkEntry x + uptoBulkEntries r
def uptoBulkEntry {H : Type} : Lit × DataW H → Nat
  | (.string bytes, d) => bytes.length + uptoBulk d + 1
  | (_, d) => uptoBulk d + 1
 end
def uptoSmall : (H : Type) → List (DataW H) → Bool := fun _ ds => decide (uptoBulkAll ds ≤ 1048576)
def OpenSpec.upto (s : _root_.Go.ChangeSpec) : _root_.Go.OpenSpec := { _root_.Go.OpenSpec.ofChange s with cond := some uptoSmall }

/-- 'padlocktop.TopClues', WHERE WHAT IT READS IS OF BULK AT MOST 1048576: true; the input reads as it did. -/
def topCluesUptoRow : OpenClaim := { program := "ytaeagngfhceceaagreatdoor", sum := "f4b6495bcc1dbb435f5b1c2598ab9be9ade685a5a11e5f0ce83e71a58699a079", func := "padlock/padlocktop.TopClues", spec := "topClues", unfollowed := true, recurses := true, named := ["padlock/room.reserved"], apart := false, laid := [("padlock/room.reserved", laid_padlock_room_reserved)], narrowed := true }
def TopCluesUptoSaid : Prop := topCluesUptoRow.holds Tryz.pinned (OpenSpec.upto topCluesSpec)

/-- 'padlocklaw04.PlayCan', WHERE WHAT IT READS IS OF BULK AT MOST 1048576: true; the input reads as it did. -/
def playCanUptoRow : OpenClaim := { program := "ytaeagngfhceceaagreatdoor", sum := "f4b6495bcc1dbb435f5b1c2598ab9be9ade685a5a11e5f0ce83e71a58699a079", func := "padlock/padlocklaw04.PlayCan", spec := "playCan", unfollowed := true, recurses := true, named := ["padlock/room.reserved"], apart := false, laid := [("padlock/room.reserved", laid_padlock_room_reserved)], narrowed := true }
def PlayCanUptoSaid : Prop := playCanUptoRow.holds Tryz.pinned (OpenSpec.upto playCanSpec)

/-- 'padlocklaw04.PlayClues', WHERE WHAT IT READS IS OF BULK AT MOST 1048576: true; the input reads as it did. -/
def playCluesUptoRow : OpenClaim := { program := "ytaeagngfhceceaagreatdoor", sum := "f4b6495bcc1dbb435f5b1c2598ab9be9ade685a5a11e5f0ce83e71a58699a079", func := "padlock/padlocklaw04.PlayClues", spec := "playClues", unfollowed := true, recurses := true, named := ["padlock/room.reserved"], apart := false, laid := [("padlock/room.reserved", laid_padlock_room_reserved)], narrowed := true }
def PlayCluesUptoSaid : Prop := playCluesUptoRow.holds Tryz.pinned (OpenSpec.upto playCluesSpec)

/-- 'padlocklaw04.PlayOpens', WHERE WHAT IT READS IS OF BULK AT MOST 1048576: true; the input reads as it did. -/
def playOpensUptoRow : OpenClaim := { program := "ytaeagngfhceceaagreatdoor", sum := "f4b6495bcc1dbb435f5b1c2598ab9be9ade685a5a11e5f0ce83e71a58699a079", func := "padlock/padlocklaw04.PlayOpens", spec := "playOpens", unfollowed := true, recurses := true, named := ["padlock/room.reserved"], apart := false, laid := [("padlock/room.reserved", laid_padlock_room_reserved)], narrowed := true }
def PlayOpensUptoSaid : Prop := playOpensUptoRow.holds Tryz.pinned (OpenSpec.upto playOpensSpec)

/-- 'padlocklaw04.PlayRuns', WHERE WHAT IT READS IS OF BULK AT MOST 1048576: true; the input reads as it did. -/
def playRunsUptoRow : OpenClaim := { program := "ytaeagngfhceceaagreatdoor", sum := "f4b6495bcc1dbb435f5b1c2598ab9be9ade685a5a11e5f0ce83e71a58699a079", func := "padlock/padlocklaw04.PlayRuns", spec := "playRuns", unfollowed := true, recurses := true, named := ["padlock/room.reserved"], apart := false, laid := [("padlock/room.reserved", laid_padlock_room_reserved)], narrowed := true }
def PlayRunsUptoSaid : Prop := playRunsUptoRow.holds Tryz.pinned (OpenSpec.upto playRunsSpec)

/-- 'padlocklaw04.PlayChecks', WHERE WHAT IT READS IS OF BULK AT MOST 1048576: true; the input reads as it did. -/
def playChecksUptoRow : OpenClaim := { program := "ytaeagngfhceceaagreatdoor", sum := "f4b6495bcc1dbb435f5b1c2598ab9be9ade685a5a11e5f0ce83e71a58699a079", func := "padlock/padlocklaw04.PlayChecks", spec := "playChecks", unfollowed := true, recurses := true, named := ["padlock/room.reserved"], apart := false, laid := [("padlock/room.reserved", laid_padlock_room_reserved)], narrowed := true }
def PlayChecksUptoSaid : Prop := playChecksUptoRow.holds Tryz.pinned (OpenSpec.upto playChecksSpec)

/-- 'padlocklaw04.PlayKnows', WHERE WHAT IT READS IS OF BULK AT MOST 1048576: true; the input reads as it did. -/
def playKnowsUptoRow : OpenClaim := { program := "ytaeagngfhceceaagreatdoor", sum := "f4b6495bcc1dbb435f5b1c2598ab9be9ade685a5a11e5f0ce83e71a58699a079", func := "padlock/padlocklaw04.PlayKnows", spec := "playKnows", unfollowed := true, recurses := true, named := ["padlock/room.reserved"], apart := false, laid := [("padlock/room.reserved", laid_padlock_room_reserved)], narrowed := true }
def PlayKnowsUptoSaid : Prop := playKnowsUptoRow.holds Tryz.pinned (OpenSpec.upto playKnowsSpec)

/-- 'padlocklaw04.PlaySteps', WHERE WHAT IT READS IS OF BULK AT MOST 1048576: true; the input reads as it did. -/
def playStepsUptoRow : OpenClaim := { program := "ytaeagngfhceceaagreatdoor", sum := "f4b6495bcc1dbb435f5b1c2598ab9be9ade685a5a11e5f0ce83e71a58699a079", func := "padlock/padlocklaw04.PlaySteps", spec := "playSteps", unfollowed := true, recurses := true, named := ["padlock/room.reserved"], apart := false, laid := [("padlock/room.reserved", laid_padlock_room_reserved)], narrowed := true }
def PlayStepsUptoSaid : Prop := playStepsUptoRow.holds Tryz.pinned (OpenSpec.upto playStepsSpec)

/-- 'padlocklaw04.PlayPossible', WHERE WHAT IT READS IS OF BULK AT MOST 1048576: true; the input reads as it did. -/
def playPossibleUptoRow : OpenClaim := { program := "ytaeagngfhceceaagreatdoor", sum := "f4b6495bcc1dbb435f5b1c2598ab9be9ade685a5a11e5f0ce83e71a58699a079", func := "padlock/padlocklaw04.PlayPossible", spec := "playPossible", unfollowed := true, recurses := true, named := ["padlock/room.reserved"], apart := false, laid := [("padlock/room.reserved", laid_padlock_room_reserved)], narrowed := true }
def PlayPossibleUptoSaid : Prop := playPossibleUptoRow.holds Tryz.pinned (OpenSpec.upto playPossibleSpec)

/-- 'padlocklaw04.PlayNeeds', WHERE WHAT IT READS IS OF BULK AT MOST 1048576: true; the input reads as it did. -/
def playNeedsUptoRow : OpenClaim := { program := "ytaeagngfhceceaagreatdoor", sum := "f4b6495bcc1dbb435f5b1c2598ab9be9ade685a5a11e5f0ce83e71a58699a079", func := "padlock/padlocklaw04.PlayNeeds", spec := "playNeeds", unfollowed := true, recurses := true, named := ["padlock/room.reserved"], apart := false, laid := [("padlock/room.reserved", laid_padlock_room_reserved)], narrowed := true }
def PlayNeedsUptoSaid : Prop := playNeedsUptoRow.holds Tryz.pinned (OpenSpec.upto playNeedsSpec)

/-- 'padlocklaw04.PlayEnough', WHERE WHAT IT READS IS OF BULK AT MOST 1048576: true; the input reads as it did. -/
def playEnoughUptoRow : OpenClaim := { program := "ytaeagngfhceceaagreatdoor", sum := "f4b6495bcc1dbb435f5b1c2598ab9be9ade685a5a11e5f0ce83e71a58699a079", func := "padlock/padlocklaw04.PlayEnough", spec := "playEnough", unfollowed := true, recurses := true, named := ["padlock/room.reserved"], apart := false, laid := [("padlock/room.reserved", laid_padlock_room_reserved)], narrowed := true }
def PlayEnoughUptoSaid : Prop := playEnoughUptoRow.holds Tryz.pinned (OpenSpec.upto playEnoughSpec)

end Rows
end Go.Proofs.YtaeagngfhceceaaGreatDoor
