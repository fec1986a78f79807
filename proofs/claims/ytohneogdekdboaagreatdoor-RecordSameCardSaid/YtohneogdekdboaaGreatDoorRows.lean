/-
  NARROWER THAN 'FOR EVERY INPUT', by the rows' own cells (each row's printed sentence says how): RecordRecords: laid · RecordChecks: laid · RecordScores: laid · RecordReplays: laid · RecordTrue: laid · RecordSame: laid.
  DERIVED. THE GIVEN ROWS OF THIS SEAT. 6 by the template 'for every input the law returns true; each argument reads behind the call as it read before'; 0 by the template 'total and deterministic' (their statements: YtohneogdekdboaaGreatDoorTotals.lean).
  GIVEN WITH THE SEED: the statements are not yours to turn. If you find one false, say at which input.
  Laid BY PROGRAM, IN A SANDBOX (cutbox-rows.mjs): the forced cells as the released guide's own fill.sh prints them over the translation ca9e0fb7aa77d93d… (all of the seat's roots in one cut). By AI agents, Wed Nov 11 2026. No macro, syntax, notation, axiom, sorry.
-/
import Derived.Test.YtohneogdekdboaaGreatDoorChecked
import GoSem.Claim
import GoSem.ClaimJoined
import GoSem.ClaimMapViews
import Derived.JoinedTies
import Derived.KernelRfl
namespace Go.Proofs.YtohneogdekdboaaGreatDoor
/- THE CELL 'sum', in the pinned program and in every row, IS THE sha256 OF THE DUMP (.gsa) THAT YtohneogdekdboaaGreatDoorProg.lean LOADS. Nothing in Lean hashes anything: it is a label: what it is worth is what the hold of that sum in a sandbox is worth. -/
noncomputable def Tryz.pinned : Pinned := { name := "ytohneogdekdboaagreatdoor", sum := "ca9e0fb7aa77d93da8654092bb063b60240f66d92c7a2c3886782207de8ed858", checked := Tryz.checked }
namespace Rows
def none {H : Type} : Left H := { results := [], args := [] }

/- WHAT THE LISTED PACKAGE-LEVEL VARIABLES READ AS WHEN THE CALL BEGINS. Each datum BY PROGRAM (the guide's laid-datum.mjs) off the statement by which the dump's own 'gosem.cut.vars' lays the variable. In a bare row this is a premise. The card (YtohneogdekdboaaGreatDoorCards.lean) ties it to the program's text. -/
def laid_padlock_room_reserved {H : Type} : DataW H := .slice [.lit (.string [97, 116]), .lit (.string [115, 116, 97, 116, 101, 115]), .lit (.string [115, 116, 97, 114, 116]), .lit (.string [103, 111, 110, 101]), .lit (.string [105, 102]), .lit (.string [108, 111, 99, 107]), .lit (.string [119, 105, 116, 104]), .lit (.string [115, 101, 116, 115]), .lit (.string [115, 112, 101, 110, 100, 115]), .lit (.string [98, 114, 105, 110, 103, 115])] []

/-- 'padlocklaw12.RecordRecords': WHATEVER THE INPUT: true; the input reads as it did. -/
def recordRecordsSpec : ChangeSpec := { name := "recordRecords", fn := fun _ => fun
  | [d1, d2] => { results := [.lit (.bool true)], args := [d1, d2] }
  | _ => none }
def recordRecordsRow : OpenClaim := { program := "ytohneogdekdboaagreatdoor", sum := "ca9e0fb7aa77d93da8654092bb063b60240f66d92c7a2c3886782207de8ed858", func := "padlock/padlocklaw12.RecordRecords", spec := "recordRecords", unfollowed := true, recurses := true, named := ["padlock/room.reserved"], apart := false, laid := [("padlock/room.reserved", laid_padlock_room_reserved)] }
def RecordRecordsSaid : Prop := recordRecordsRow.holds Tryz.pinned (OpenSpec.ofChange recordRecordsSpec)

/-- ITS FALSE NEIGHBOUR: 'it returns false'. Refute it at one input. -/
def recordRecordsWrong : ChangeSpec := { name := "recordRecords", fn := fun _ => fun
  | [d1, d2] => { results := [.lit (.bool false)], args := [d1, d2] }
  | _ => none }
def RecordRecordsWrongFalsely : Prop := recordRecordsRow.holds Tryz.pinned (OpenSpec.ofChange recordRecordsWrong)

/-- 'padlocklaw12.RecordChecks': WHATEVER THE INPUT: true; the input reads as it did. -/
def recordChecksSpec : ChangeSpec := { name := "recordChecks", fn := fun _ => fun
  | [d1, d2] => { results := [.lit (.bool true)], args := [d1, d2] }
  | _ => none }
def recordChecksRow : OpenClaim := { program := "ytohneogdekdboaagreatdoor", sum := "ca9e0fb7aa77d93da8654092bb063b60240f66d92c7a2c3886782207de8ed858", func := "padlock/padlocklaw12.RecordChecks", spec := "recordChecks", unfollowed := true, recurses := true, named := ["padlock/room.reserved"], apart := false, laid := [("padlock/room.reserved", laid_padlock_room_reserved)] }
def RecordChecksSaid : Prop := recordChecksRow.holds Tryz.pinned (OpenSpec.ofChange recordChecksSpec)

/-- ITS FALSE NEIGHBOUR: 'it returns false'. Refute it at one input. -/
def recordChecksWrong : ChangeSpec := { name := "recordChecks", fn := fun _ => fun
  | [d1, d2] => { results := [.lit (.bool false)], args := [d1, d2] }
  | _ => none }
def RecordChecksWrongFalsely : Prop := recordChecksRow.holds Tryz.pinned (OpenSpec.ofChange recordChecksWrong)

/-- 'padlocklaw12.RecordScores': WHATEVER THE INPUT: true; the input reads as it did. -/
def recordScoresSpec : ChangeSpec := { name := "recordScores", fn := fun _ => fun
  | [d1, d2, d3] => { results := [.lit (.bool true)], args := [d1, d2, d3] }
  | _ => none }
def recordScoresRow : OpenClaim := { program := "ytohneogdekdboaagreatdoor", sum := "ca9e0fb7aa77d93da8654092bb063b60240f66d92c7a2c3886782207de8ed858", func := "padlock/padlocklaw12.RecordScores", spec := "recordScores", unfollowed := true, recurses := true, named := ["padlock/room.reserved"], apart := false, laid := [("padlock/room.reserved", laid_padlock_room_reserved)] }
def RecordScoresSaid : Prop := recordScoresRow.holds Tryz.pinned (OpenSpec.ofChange recordScoresSpec)

/-- ITS FALSE NEIGHBOUR: 'it returns false'. Refute it at one input. -/
def recordScoresWrong : ChangeSpec := { name := "recordScores", fn := fun _ => fun
  | [d1, d2, d3] => { results := [.lit (.bool false)], args := [d1, d2, d3] }
  | _ => none }
def RecordScoresWrongFalsely : Prop := recordScoresRow.holds Tryz.pinned (OpenSpec.ofChange recordScoresWrong)

/-- 'padlocklaw12.RecordReplays': WHATEVER THE INPUT: true; the input reads as it did. -/
def recordReplaysSpec : ChangeSpec := { name := "recordReplays", fn := fun _ => fun
  | [d1, d2] => { results := [.lit (.bool true)], args := [d1, d2] }
  | _ => none }
def recordReplaysRow : OpenClaim := { program := "ytohneogdekdboaagreatdoor", sum := "ca9e0fb7aa77d93da8654092bb063b60240f66d92c7a2c3886782207de8ed858", func := "padlock/padlocklaw12.RecordReplays", spec := "recordReplays", unfollowed := true, recurses := true, named := ["padlock/room.reserved"], apart := false, laid := [("padlock/room.reserved", laid_padlock_room_reserved)] }
def RecordReplaysSaid : Prop := recordReplaysRow.holds Tryz.pinned (OpenSpec.ofChange recordReplaysSpec)

/-- ITS FALSE NEIGHBOUR: 'it returns false'. Refute it at one input. -/
def recordReplaysWrong : ChangeSpec := { name := "recordReplays", fn := fun _ => fun
  | [d1, d2] => { results := [.lit (.bool false)], args := [d1, d2] }
  | _ => none }
def RecordReplaysWrongFalsely : Prop := recordReplaysRow.holds Tryz.pinned (OpenSpec.ofChange recordReplaysWrong)

/-- 'padlocklaw12.RecordTrue': WHATEVER THE INPUT: true; the input reads as it did. -/
def recordTrueSpec : ChangeSpec := { name := "recordTrue", fn := fun _ => fun
  | [d1, d2] => { results := [.lit (.bool true)], args := [d1, d2] }
  | _ => none }
def recordTrueRow : OpenClaim := { program := "ytohneogdekdboaagreatdoor", sum := "ca9e0fb7aa77d93da8654092bb063b60240f66d92c7a2c3886782207de8ed858", func := "padlock/padlocklaw12.RecordTrue", spec := "recordTrue", unfollowed := true, recurses := true, named := ["padlock/room.reserved"], apart := false, laid := [("padlock/room.reserved", laid_padlock_room_reserved)] }
def RecordTrueSaid : Prop := recordTrueRow.holds Tryz.pinned (OpenSpec.ofChange recordTrueSpec)

/-- ITS FALSE NEIGHBOUR: 'it returns false'. Refute it at one input. -/
def recordTrueWrong : ChangeSpec := { name := "recordTrue", fn := fun _ => fun
  | [d1, d2] => { results := [.lit (.bool false)], args := [d1, d2] }
  | _ => none }
def RecordTrueWrongFalsely : Prop := recordTrueRow.holds Tryz.pinned (OpenSpec.ofChange recordTrueWrong)

/-- 'padlocklaw12.RecordSame': WHATEVER THE INPUT: true; the input reads as it did. -/
def recordSameSpec : ChangeSpec := { name := "recordSame", fn := fun _ => fun
  | [d1, d2] => { results := [.lit (.bool true)], args := [d1, d2] }
  | _ => none }
def recordSameRow : OpenClaim := { program := "ytohneogdekdboaagreatdoor", sum := "ca9e0fb7aa77d93da8654092bb063b60240f66d92c7a2c3886782207de8ed858", func := "padlock/padlocklaw12.RecordSame", spec := "recordSame", unfollowed := true, recurses := true, named := ["padlock/room.reserved"], apart := false, laid := [("padlock/room.reserved", laid_padlock_room_reserved)] }
def RecordSameSaid : Prop := recordSameRow.holds Tryz.pinned (OpenSpec.ofChange recordSameSpec)

/-- ITS FALSE NEIGHBOUR: 'it returns false'. Refute it at one input. -/
def recordSameWrong : ChangeSpec := { name := "recordSame", fn := fun _ => fun
  | [d1, d2] => { results := [.lit (.bool false)], args := [d1, d2] }
  | _ => none }
def RecordSameWrongFalsely : Prop := recordSameRow.holds Tryz.pinned (OpenSpec.ofChange recordSameWrong)

/- THE SECOND FORM. 'bulk': how many values and letters a reading holds, each counted each time it is reached (what is shared counts as often as it is met; a slice's spare places count too). A statement '..UptoSaid' is the law's where the arguments, and the package variables that the reading takes, are together of bulk at most 1048576: NARROWER than '..Said'. Prove '..Said' where nothing that the law and all that it calls make is longer than what came in: it says more and counts as full. Else prove '..UptoSaid'. A law counts once. -/
mutual
def uptoBulk {H : Type} : DataW H → Nat
  | .lit (.string bytes) => bytes.length + 1
  | .lit _ => 1
  | .nil => 1
  | .ptr d => uptoBulk d + 1
  | .slice elems spare => uptoBulkAll elems + uptoBulkAll spare + 1
  | .agg parts => uptoBulkAll parts + 1
  | .iface _ d => uptoBulk d + 1
  | .map entries => uptoBulkEntries entries + 1
  | .held _ => 1
def uptoBulkAll {H : Type} : List (DataW H) → Nat
  | [] => 0
  | d :: r => uptoBulk d + uptoBulkAll r
def uptoBulkEntries {H : Type} : List (Lit × DataW H) → Nat
  | [] => 0
  | x :: r => uptoBulkEntry x + uptoBulkEntries r
def uptoBulkEntry {H : Type} : Lit × DataW H → Nat
  | (.string bytes, d) => bytes.length + uptoBulk d + 1
  | (_, d) => uptoBulk d + 1
 end
def uptoSmall : (H : Type) → List (DataW H) → Bool := fun _ ds => decide (uptoBulkAll ds ≤ 1048576)
def OpenSpec.upto (s : _root_.Go.ChangeSpec) : _root_.Go.OpenSpec := { _root_.Go.OpenSpec.ofChange s with cond := some uptoSmall }

/-- 'padlocklaw12.RecordRecords', WHERE WHAT IT READS IS OF BULK AT MOST 1048576: true; the input reads as it did. -/
def recordRecordsUptoRow : OpenClaim := { program := "ytohneogdekdboaagreatdoor", sum := "ca9e0fb7aa77d93da8654092bb063b60240f66d92c7a2c3886782207de8ed858", func := "padlock/padlocklaw12.RecordRecords", spec := "recordRecords", unfollowed := true, recurses := true, named := ["padlock/room.reserved"], apart := false, laid := [("padlock/room.reserved", laid_padlock_room_reserved)], narrowed := true }
def RecordRecordsUptoSaid : Prop := recordRecordsUptoRow.holds Tryz.pinned (OpenSpec.upto recordRecordsSpec)

/-- 'padlocklaw12.RecordChecks', WHERE WHAT IT READS IS OF BULK AT MOST 1048576: true; the input reads as it did. -/
def recordChecksUptoRow : OpenClaim := { program := "ytohneogdekdboaagreatdoor", sum := "ca9e0fb7aa77d93da8654092bb063b60240f66d92c7a2c3886782207de8ed858", func := "padlock/padlocklaw12.RecordChecks", spec := "recordChecks", unfollowed := true, recurses := true, named := ["padlock/room.reserved"], apart := false, laid := [("padlock/room.reserved", laid_padlock_room_reserved)], narrowed := true }
def RecordChecksUptoSaid : Prop := recordChecksUptoRow.holds Tryz.pinned (OpenSpec.upto recordChecksSpec)

/-- 'padlocklaw12.RecordScores', WHERE WHAT IT READS IS OF BULK AT MOST 1048576: true; the input reads as it did. -/
def recordScoresUptoRow : OpenClaim := { program := "ytohneogdekdboaagreatdoor", sum := "ca9e0fb7aa77d93da8654092bb063b60240f66d92c7a2c3886782207de8ed858", func := "padlock/padlocklaw12.RecordScores", spec := "recordScores", unfollowed := true, recurses := true, named := ["padlock/room.reserved"], apart := false, laid := [("padlock/room.reserved", laid_padlock_room_reserved)], narrowed := true }
def RecordScoresUptoSaid : Prop := recordScoresUptoRow.holds Tryz.pinned (OpenSpec.upto recordScoresSpec)

/-- 'padlocklaw12.RecordReplays', WHERE WHAT IT READS IS OF BULK AT MOST 1048576: true; the input reads as it did. -/
def recordReplaysUptoRow : OpenClaim := { program := "ytohneogdekdboaagreatdoor", sum := "ca9e0fb7aa77d93da8654092bb063b60240f66d92c7a2c3886782207de8ed858", func := "padlock/padlocklaw12.RecordReplays", spec := "recordReplays", unfollowed := true, recurses := true, named := ["padlock/room.reserved"], apart := false, laid := [("padlock/room.reserved", laid_padlock_room_reserved)], narrowed := true }
def RecordReplaysUptoSaid : Prop := recordReplaysUptoRow.holds Tryz.pinned (OpenSpec.upto recordReplaysSpec)

/-- 'padlocklaw12.RecordTrue', WHERE WHAT IT READS IS OF BULK AT MOST 1048576: true; the input reads as it did. -/
def recordTrueUptoRow : OpenClaim := { program := "ytohneogdekdboaagreatdoor", sum := "ca9e0fb7aa77d93da8654092bb063b60240f66d92c7a2c3886782207de8ed858", func := "padlock/padlocklaw12.RecordTrue", spec := "recordTrue", unfollowed := true, recurses := true, named := ["padlock/room.reserved"], apart := false, laid := [("padlock/room.reserved", laid_padlock_room_reserved)], narrowed := true }
def RecordTrueUptoSaid : Prop := recordTrueUptoRow.holds Tryz.pinned (OpenSpec.upto recordTrueSpec)

/-- 'padlocklaw12.RecordSame', WHERE WHAT IT READS IS OF BULK AT MOST 1048576: true; the input reads as it did. -/
def recordSameUptoRow : OpenClaim := { program := "ytohneogdekdboaagreatdoor", sum := "ca9e0fb7aa77d93da8654092bb063b60240f66d92c7a2c3886782207de8ed858", func := "padlock/padlocklaw12.RecordSame", spec := "recordSame", unfollowed := true, recurses := true, named := ["padlock/room.reserved"], apart := false, laid := [("padlock/room.reserved", laid_padlock_room_reserved)], narrowed := true }
def RecordSameUptoSaid : Prop := recordSameUptoRow.holds Tryz.pinned (OpenSpec.upto recordSameSpec)

end Rows
end Go.Proofs.YtohneogdekdboaaGreatDoor
