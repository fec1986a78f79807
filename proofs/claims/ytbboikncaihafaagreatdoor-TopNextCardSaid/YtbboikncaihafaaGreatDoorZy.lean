/- Merged texts of this proof (walks and plain laws), printed by a program of the prover. -/
import Derived.Test.YtbboikncaihafaaGreatDoorZa
import Derived.Test.YtbboikncaihafaaGreatDoorRows
set_option maxHeartbeats 8000000
namespace Go.Proofs.YtbboikncaihafaaGreatDoor
open Go.RowKit Go.Proofs
set_option maxRecDepth 100000
set_option linter.unusedVariables false
set_option linter.unusedSimpArgs false
theorem bd_ {a b:Bool} (ha:a=true) (hb:b=true):(a && b)=true:=by rw [ha,hb]; rfl
theorem Jvy:(laidOutB Tryz.prog)=true:=by kernel_rfl
theorem Jw7:(mapsRowed Tryz.prog)=true:=by kernel_rfl
theorem Jxc:((Tryz.prog.stops == []))=true:=by kernel_rfl
theorem Jvb:((Tryz.prog.stopKnobs == []))=true:=by kernel_rfl
theorem Jsl:((Rows.recordCutsRow.plainKeys == Tryz.prog.plainKeys))=true:=by kernel_rfl
theorem Jsq:(Tryz.prog.stopsHeard)=true:=by kernel_rfl
theorem Js6:(Tryz.prog.mayEnter)=true:=by kernel_rfl
theorem Jtd:((Rows.recordCutsRow.lifted == Tryz.prog.liftsFinal))=true:=by kernel_rfl
theorem Jtf:((Tryz.prog.make == some Rows.recordCutsRow.make))=true:=by kernel_rfl
end Go.Proofs.YtbboikncaihafaaGreatDoor
