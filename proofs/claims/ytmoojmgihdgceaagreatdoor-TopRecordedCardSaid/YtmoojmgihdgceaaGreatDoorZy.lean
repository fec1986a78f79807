/- Merged texts of this proof (walks and plain laws), printed by a program of the prover. -/
import Derived.Test.YtmoojmgihdgceaaGreatDoorZa
import Derived.Test.YtmoojmgihdgceaaGreatDoorRows
set_option maxHeartbeats 8000000
namespace Go.Proofs.YtmoojmgihdgceaaGreatDoor
open Go.RowKit Go.Proofs Tryz
set_option maxRecDepth 100000
set_option linter.unusedVariables false
set_option linter.unusedSimpArgs false
theorem bd_ {a b:Bool} (ha:a=true) (hb:b=true):(a&&b)=true:=by rw[ha,hb];rfl
theorem WJ:(laidOutB prog)=true:=by kernel_rfl
theorem W4:(mapsRowed prog)=true:=by kernel_rfl
theorem Vs:((prog.stops == []))=true:=by kernel_rfl
theorem Vx:((prog.stopKnobs == []))=true:=by kernel_rfl
theorem Sn:((Rows.topRecordedRow.plainKeys == prog.plainKeys))=true:=by kernel_rfl
theorem TV:(prog.stopsHeard)=true:=by kernel_rfl
theorem Sr:(prog.mayEnter)=true:=by kernel_rfl
theorem TW:((Rows.topRecordedRow.lifted == prog.liftsFinal))=true:=by kernel_rfl
theorem Ss:((prog.make == some Rows.topRecordedRow.make))=true:=by kernel_rfl
end Go.Proofs.YtmoojmgihdgceaaGreatDoor
