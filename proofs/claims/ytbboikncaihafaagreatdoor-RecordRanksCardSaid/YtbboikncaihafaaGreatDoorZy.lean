/- Merged texts of this proof (walks and plain laws), printed by a program of the prover. -/
import Derived.Test.YtbboikncaihafaaGreatDoorZa
import Derived.Test.YtbboikncaihafaaGreatDoorRows
set_option maxHeartbeats 8000000
namespace Go.Proofs.YtbboikncaihafaaGreatDoor
open Go.RowKit Go.Proofs
set_option maxRecDepth 100000
set_option linter.unusedVariables false
set_option linter.unusedSimpArgs false
theorem bd_ {a b:Bool} (ha:a=true) (hb:b=true):(a && b)=true:=by rw [ha,hb]; rfl
theorem Jzb:(laidOutB Tryz.prog)=true:=by kernel_rfl
theorem Jwb:(mapsRowed Tryz.prog)=true:=by kernel_rfl
theorem Jyo:((Tryz.prog.stops == []))=true:=by kernel_rfl
theorem Jwr:((Tryz.prog.stopKnobs == []))=true:=by kernel_rfl
theorem Jri:((Rows.recordCutsRow.plainKeys == Tryz.prog.plainKeys))=true:=by kernel_rfl
theorem Jte:(Tryz.prog.stopsHeard)=true:=by kernel_rfl
theorem Jrm:(Tryz.prog.mayEnter)=true:=by kernel_rfl
theorem Jsk:((Rows.recordCutsRow.lifted == Tryz.prog.liftsFinal))=true:=by kernel_rfl
theorem Jtl:((Tryz.prog.make == some Rows.recordCutsRow.make))=true:=by kernel_rfl
end Go.Proofs.YtbboikncaihafaaGreatDoor
