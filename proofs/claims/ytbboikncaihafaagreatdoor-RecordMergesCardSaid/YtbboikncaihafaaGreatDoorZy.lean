/- Merged texts of this proof (walks and plain laws), printed by a program of the prover. -/
import Derived.Test.YtbboikncaihafaaGreatDoorZa
import Derived.Test.YtbboikncaihafaaGreatDoorRows
set_option maxHeartbeats 8000000
namespace Go.Proofs.YtbboikncaihafaaGreatDoor
open Go.RowKit Go.Proofs
set_option maxRecDepth 100000
set_option linter.unusedVariables false
set_option linter.unusedSimpArgs false
theorem bd_ {a b : Bool} (ha : a = true) (hb : b = true) : (a && b) = true := by rw [ha, hb]; rfl
theorem Jvh : (laidOutB Tryz.prog) = true := by kernel_rfl
theorem Jvt : (mapsRowed Tryz.prog) = true := by kernel_rfl
theorem Jvs : ((Tryz.prog.stops == [])) = true := by kernel_rfl
theorem Jw1 : ((Tryz.prog.stopKnobs == [])) = true := by kernel_rfl
theorem Jrv : ((Rows.recordCutsRow.plainKeys == Tryz.prog.plainKeys)) = true := by kernel_rfl
theorem Jtj : (Tryz.prog.stopsHeard) = true := by kernel_rfl
theorem Jsy : (Tryz.prog.mayEnter) = true := by kernel_rfl
theorem Jsu : ((Rows.recordCutsRow.lifted == Tryz.prog.liftsFinal)) = true := by kernel_rfl
theorem Jty : ((Tryz.prog.make == some Rows.recordCutsRow.make)) = true := by kernel_rfl
end Go.Proofs.YtbboikncaihafaaGreatDoor
