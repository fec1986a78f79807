/- Merged texts of this proof (walks and plain laws), printed by a program of the prover. -/
import Derived.Test.YtfbfdnoodccgiaaGreatDoorZa
import Derived.Test.YtfbfdnoodccgiaaGreatDoorRows
set_option maxHeartbeats 8000000
namespace Go.Proofs.YtfbfdnoodccgiaaGreatDoor
open Go.RowKit Go.Proofs
set_option maxRecDepth 100000
set_option linter.unusedVariables false
set_option linter.unusedSimpArgs false
theorem bd_ {a b:Bool} (ha:a=true) (hb:b=true):(a && b)=true:=by rw [ha,hb]; rfl
theorem J0x:(laidOutB Tryz.prog)=true:=by kernel_rfl
theorem J0d:(mapsRowed Tryz.prog)=true:=by kernel_rfl
theorem Jzj:((Tryz.prog.stops == []))=true:=by kernel_rfl
theorem Jzw:((Tryz.prog.stopKnobs == []))=true:=by kernel_rfl
theorem Jv4:((Rows.recordParsesRow.plainKeys == Tryz.prog.plainKeys))=true:=by kernel_rfl
theorem Jwp:(Tryz.prog.stopsHeard)=true:=by kernel_rfl
theorem Jww:(Tryz.prog.mayEnter)=true:=by kernel_rfl
theorem Jx2:((Rows.recordParsesRow.lifted == Tryz.prog.liftsFinal))=true:=by kernel_rfl
theorem Jxv:((Tryz.prog.make == some Rows.recordParsesRow.make))=true:=by kernel_rfl
end Go.Proofs.YtfbfdnoodccgiaaGreatDoor
