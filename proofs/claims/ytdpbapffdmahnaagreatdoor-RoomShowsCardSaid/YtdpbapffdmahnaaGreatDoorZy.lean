/- Merged texts of this proof (walks and plain laws), printed by a program of the prover. -/
import Derived.Test.YtdpbapffdmahnaaGreatDoorZa
import Derived.Test.YtdpbapffdmahnaaGreatDoorRows
set_option maxHeartbeats 8000000
namespace Go.Proofs.YtdpbapffdmahnaaGreatDoor
open Go.RowKit Go.Proofs
set_option maxRecDepth 100000
set_option linter.unusedVariables false
set_option linter.unusedSimpArgs false
theorem bd_ {a b:Bool} (ha:a=true) (hb:b=true):(a && b)=true:=by rw [ha,hb]; rfl
theorem Jns:(laidOutB Tryz.prog)=true:=by kernel_rfl
theorem Jni:(mapsRowed Tryz.prog)=true:=by kernel_rfl
theorem Jnf:((Tryz.prog.stops == []))=true:=by kernel_rfl
theorem Jm5:((Tryz.prog.stopKnobs == []))=true:=by kernel_rfl
theorem Jlw:((Rows.roomShowsRow.plainKeys == Tryz.prog.plainKeys))=true:=by kernel_rfl
theorem Jk1:(Tryz.prog.stopsHeard)=true:=by kernel_rfl
theorem Jly:(Tryz.prog.mayEnter)=true:=by kernel_rfl
theorem Jl8:((Rows.roomShowsRow.lifted == Tryz.prog.liftsFinal))=true:=by kernel_rfl
theorem Jlm:((Tryz.prog.make == some Rows.roomShowsRow.make))=true:=by kernel_rfl
end Go.Proofs.YtdpbapffdmahnaaGreatDoor
