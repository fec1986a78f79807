/- Merged texts of this proof. -/
import Derived.Test.YtllebkdchemabaaGreatDoorZa
import Derived.Test.YtllebkdchemabaaGreatDoorRows
set_option maxHeartbeats 8000000
namespace Go.Proofs.YtllebkdchemabaaGreatDoor
open Go.RowKit Go.Proofs Tryz
set_option maxRecDepth 100000
set_option linter.unusedVariables false
set_option linter.unusedSimpArgs false
theorem bd_ {a b:Bool} (ha:a=true) (hb:b=true):(a&&b)=true:=by rw[ha,hb];rfl
theorem Zp:(laidOutB prog)=true:=by kernel_rfl
theorem Zk:(mapsRowed prog)=true:=by kernel_rfl
theorem Yv:((prog.stops == []))=true:=by kernel_rfl
theorem Jal:((prog.stopKnobs == []))=true:=by kernel_rfl
theorem WE:((Rows.playParsesRow.plainKeys == prog.plainKeys))=true:=by kernel_rfl
theorem UT:(prog.stopsHeard)=true:=by kernel_rfl
theorem Ve:(prog.mayEnter)=true:=by kernel_rfl
theorem V1:((Rows.playParsesRow.lifted == prog.liftsFinal))=true:=by kernel_rfl
theorem Wu:((prog.make == some Rows.playParsesRow.make))=true:=by kernel_rfl
end Go.Proofs.YtllebkdchemabaaGreatDoor
