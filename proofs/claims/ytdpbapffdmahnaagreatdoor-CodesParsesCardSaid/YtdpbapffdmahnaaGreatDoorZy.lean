/- Merged texts of this proof (walks and plain laws), printed by a program of the prover. -/
import Derived.Test.YtdpbapffdmahnaaGreatDoorZa
import Derived.Test.YtdpbapffdmahnaaGreatDoorRows
set_option maxHeartbeats 8000000
namespace Go.Proofs.YtdpbapffdmahnaaGreatDoor
open Go.RowKit Go.Proofs
set_option maxRecDepth 100000
set_option linter.unusedVariables false
set_option linter.unusedSimpArgs false
theorem bd_ {a b:Bool} (ha:a=true) (hb:b=true):(a && b)=true:=by rw [ha,hb]; rfl
theorem Jlz:(laidOutB Tryz.prog)=true:=by kernel_rfl
theorem Jlb:(mapsRowed Tryz.prog)=true:=by kernel_rfl
theorem Jmm:((Tryz.prog.stops == []))=true:=by kernel_rfl
theorem Jl3:((Tryz.prog.stopKnobs == []))=true:=by kernel_rfl
theorem Jjl:((Rows.roomShowsRow.plainKeys == Tryz.prog.plainKeys))=true:=by kernel_rfl
theorem Jjm:(Tryz.prog.stopsHeard)=true:=by kernel_rfl
theorem Jkc:(Tryz.prog.mayEnter)=true:=by kernel_rfl
theorem Ji7:((Rows.roomShowsRow.lifted == Tryz.prog.liftsFinal))=true:=by kernel_rfl
theorem Jjq:((Tryz.prog.make == some Rows.roomShowsRow.make))=true:=by kernel_rfl
end Go.Proofs.YtdpbapffdmahnaaGreatDoor
