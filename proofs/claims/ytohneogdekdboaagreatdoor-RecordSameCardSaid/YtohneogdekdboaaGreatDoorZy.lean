/- Merged texts of this proof (walks and plain laws), printed by a program of the prover. -/
import Derived.Test.YtohneogdekdboaaGreatDoorZa
import Derived.Test.YtohneogdekdboaaGreatDoorRows
set_option maxHeartbeats 8000000
namespace Go.Proofs.YtohneogdekdboaaGreatDoor
open Go.RowKit Go.Proofs
set_option maxRecDepth 100000
set_option linter.unusedVariables false
set_option linter.unusedSimpArgs false
theorem bd_ {a b : Bool} (ha : a = true) (hb : b = true) : (a && b) = true := by rw [ha, hb]; rfl
theorem Ji3 : (laidOutB Tryz.prog) = true := by kernel_rfl
theorem Jiv : (mapsRowed Tryz.prog) = true := by kernel_rfl
theorem Ji9 : ((Tryz.prog.stops == [])) = true := by kernel_rfl
theorem Ji4 : ((Tryz.prog.stopKnobs == [])) = true := by kernel_rfl
theorem Jg4 : ((Rows.recordChecksRow.plainKeys == Tryz.prog.plainKeys)) = true := by kernel_rfl
theorem Jha : (Tryz.prog.stopsHeard) = true := by kernel_rfl
theorem Jg6 : (Tryz.prog.mayEnter) = true := by kernel_rfl
theorem Jgy : ((Rows.recordChecksRow.lifted == Tryz.prog.liftsFinal)) = true := by kernel_rfl
theorem Jgv : ((Tryz.prog.make == some Rows.recordChecksRow.make)) = true := by kernel_rfl
end Go.Proofs.YtohneogdekdboaaGreatDoor
