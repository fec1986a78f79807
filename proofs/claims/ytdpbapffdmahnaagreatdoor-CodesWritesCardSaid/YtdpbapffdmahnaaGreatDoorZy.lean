/- Merged texts of this proof (walks and plain laws), printed by a program of the prover. -/
import Derived.Test.YtdpbapffdmahnaaGreatDoorZa
import Derived.Test.YtdpbapffdmahnaaGreatDoorRows
set_option maxHeartbeats 8000000
namespace Go.Proofs.YtdpbapffdmahnaaGreatDoor
open Go.RowKit Go.Proofs
set_option maxRecDepth 100000
set_option linter.unusedVariables false
set_option linter.unusedSimpArgs false
theorem bd_ {a b:Bool} (ha:a=true) (hb:b=true):(a && b)=true:=by rw [ha,hb]; rfl
theorem Jmi:(laidOutB Tryz.prog)=true:=by kernel_rfl
theorem Jnc:(mapsRowed Tryz.prog)=true:=by kernel_rfl
theorem Jl7:((Tryz.prog.stops == []))=true:=by kernel_rfl
theorem Jnq:((Tryz.prog.stopKnobs == []))=true:=by kernel_rfl
theorem Jld:((Rows.roomShowsRow.plainKeys == Tryz.prog.plainKeys))=true:=by kernel_rfl
theorem Jla:(Tryz.prog.stopsHeard)=true:=by kernel_rfl
theorem Jks:(Tryz.prog.mayEnter)=true:=by kernel_rfl
theorem Jkm:((Rows.roomShowsRow.lifted == Tryz.prog.liftsFinal))=true:=by kernel_rfl
theorem Jj7:((Tryz.prog.make == some Rows.roomShowsRow.make))=true:=by kernel_rfl
end Go.Proofs.YtdpbapffdmahnaaGreatDoor
