/- Merged texts of this proof (walks and plain laws), printed by a program of the prover. -/
import Derived.Test.YtaeagngfhceceaaGreatDoorZa
import Derived.Test.YtaeagngfhceceaaGreatDoorRows
set_option maxHeartbeats 8000000
namespace Go.Proofs.YtaeagngfhceceaaGreatDoor
open Go.RowKit Go.Proofs
set_option maxRecDepth 100000
set_option linter.unusedVariables false
set_option linter.unusedSimpArgs false
theorem bd_ {a b : Bool} (ha : a = true) (hb : b = true) : (a && b) = true := by rw [ha, hb]; rfl
theorem seat_k2 : (laidOutB Tryz.prog) = true := by kernel_rfl
theorem seat_k3 : (mapsRowed Tryz.prog) = true := by kernel_rfl
theorem seat_k7 : ((Tryz.prog.stops == [])) = true := by kernel_rfl
theorem seat_k9 : ((Tryz.prog.stopKnobs == [])) = true := by kernel_rfl
theorem seat_k23 : ((Rows.playChecksRow.plainKeys == Tryz.prog.plainKeys)) = true := by kernel_rfl
theorem seat_k25 : (Tryz.prog.stopsHeard) = true := by kernel_rfl
theorem seat_k26 : (Tryz.prog.mayEnter) = true := by kernel_rfl
theorem seat_k27 : ((Rows.playChecksRow.lifted == Tryz.prog.liftsFinal)) = true := by kernel_rfl
theorem seat_k28 : ((Tryz.prog.make == some Rows.playChecksRow.make)) = true := by kernel_rfl
end Go.Proofs.YtaeagngfhceceaaGreatDoor
