/- Merged texts of this proof (walks and plain laws), printed by a program of the prover. -/
import Derived.Test.YtfbfdnoodccgiaaGreatDoorZa
import Derived.Test.YtfbfdnoodccgiaaGreatDoorRows
set_option maxHeartbeats 8000000
namespace Go.Proofs.YtfbfdnoodccgiaaGreatDoor
open Go.RowKit Go.Proofs
set_option maxRecDepth 100000
set_option linter.unusedVariables false
set_option linter.unusedSimpArgs false
theorem bd_ {a b:Bool} (ha:a=true) (hb:b=true):(a && b)=true:=by rw [ha,hb]; rfl
theorem Jxr:(laidOutB Tryz.prog)=true:=by kernel_rfl
theorem Jxl:(mapsRowed Tryz.prog)=true:=by kernel_rfl
theorem Jyj:((Tryz.prog.stops == []))=true:=by kernel_rfl
theorem Jy4:((Tryz.prog.stopKnobs == []))=true:=by kernel_rfl
theorem Jtw:((Rows.recordParsesRow.plainKeys == Tryz.prog.plainKeys))=true:=by kernel_rfl
theorem Juh:(Tryz.prog.stopsHeard)=true:=by kernel_rfl
theorem Jvp:(Tryz.prog.mayEnter)=true:=by kernel_rfl
theorem Ju6:((Rows.recordParsesRow.lifted == Tryz.prog.liftsFinal))=true:=by kernel_rfl
theorem Jug:((Tryz.prog.make == some Rows.recordParsesRow.make))=true:=by kernel_rfl
end Go.Proofs.YtfbfdnoodccgiaaGreatDoor
