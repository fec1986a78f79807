/- Merged texts of this proof (walks and plain laws), printed by a program of the prover. -/
import Derived.Test.YtkekjhcmephhjaaGreatDoorZa
import Derived.Test.YtkekjhcmephhjaaGreatDoorRows
set_option maxHeartbeats 8000000
namespace Go.Proofs.YtkekjhcmephhjaaGreatDoor
open Go.RowKit Go.Proofs
set_option maxRecDepth 100000
set_option linter.unusedVariables false
set_option linter.unusedSimpArgs false
theorem bd_ {a b:Bool} (ha:a=true) (hb:b=true):(a && b)=true:=by rw [ha,hb]; rfl
theorem Jzg:(laidOutB Tryz.prog)=true:=by kernel_rfl
theorem J0j:(mapsRowed Tryz.prog)=true:=by kernel_rfl
theorem Jz1:((Tryz.prog.stops == []))=true:=by kernel_rfl
theorem Jy1:((Tryz.prog.stopKnobs == []))=true:=by kernel_rfl
theorem Jvw:((Rows.roomParsesRow.plainKeys == Tryz.prog.plainKeys))=true:=by kernel_rfl
theorem Jw0:(Tryz.prog.stopsHeard)=true:=by kernel_rfl
theorem Jvi:(Tryz.prog.mayEnter)=true:=by kernel_rfl
theorem Jv9:((Rows.roomParsesRow.lifted == Tryz.prog.liftsFinal))=true:=by kernel_rfl
theorem Jxl:((Tryz.prog.make == some Rows.roomParsesRow.make))=true:=by kernel_rfl
end Go.Proofs.YtkekjhcmephhjaaGreatDoor
