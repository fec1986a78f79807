/- Merged texts of this proof. -/
import Derived.Test.YtllebkdchemabaaGreatDoorZy
import Derived.Test.YtllebkdchemabaaGreatDoorCards
set_option maxHeartbeats 8000000
namespace Go.Proofs.YtllebkdchemabaaGreatDoor
open Go.RowKit Go.Proofs Tryz
set_option maxRecDepth 100000
set_option linter.unusedVariables false
set_option linter.unusedSimpArgs false
theorem HS:false=Rows.playParsesRow.goesBy prog:=by kernel_rfl
end Go.Proofs.YtllebkdchemabaaGreatDoor
