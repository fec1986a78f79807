/- Merged texts of this proof (walks and plain laws), printed by a program of the prover. -/
import Derived.Test.YtmoojmgihdgceaaGreatDoorZa
import Derived.Test.YtmoojmgihdgceaaGreatDoorRows
set_option maxHeartbeats 8000000
namespace Go.Proofs.YtmoojmgihdgceaaGreatDoor
open Go.RowKit Go.Proofs Tryz
set_option maxRecDepth 100000
set_option linter.unusedVariables false
set_option linter.unusedSimpArgs false
theorem bd_ {a b:Bool} (ha:a=true) (hb:b=true):(a&&b)=true:=by rw[ha,hb];rfl
theorem J8s:(laidOutB prog)=true:=by kernel_rfl
theorem J9c:(mapsRowed prog)=true:=by kernel_rfl
theorem J6u:((prog.stops == []))=true:=by kernel_rfl
theorem J86:((prog.stopKnobs == []))=true:=by kernel_rfl
theorem J13:((Rows.recordWastesRow.plainKeys == prog.plainKeys))=true:=by kernel_rfl
theorem J3j:(prog.stopsHeard)=true:=by kernel_rfl
theorem J4n:(prog.mayEnter)=true:=by kernel_rfl
theorem J1t:((Rows.recordWastesRow.lifted == prog.liftsFinal))=true:=by kernel_rfl
theorem J3c:((prog.make == some Rows.recordWastesRow.make))=true:=by kernel_rfl
end Go.Proofs.YtmoojmgihdgceaaGreatDoor
