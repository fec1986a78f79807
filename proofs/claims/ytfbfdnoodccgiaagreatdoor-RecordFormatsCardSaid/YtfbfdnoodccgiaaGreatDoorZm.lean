/- Merged texts of this proof (walks and plain laws), printed by a program of the prover. -/
import Derived.Test.YtfbfdnoodccgiaaGreatDoorZb
import Derived.Test.YtfbfdnoodccgiaaGreatDoorZh
import Derived.Test.YtfbfdnoodccgiaaGreatDoorZg
import Derived.Test.YtfbfdnoodccgiaaGreatDoorZc
set_option maxHeartbeats 8000000
namespace Go.Proofs.YtfbfdnoodccgiaaGreatDoor
open Go.RowKit Go.Proofs
set_option maxRecDepth 100000
set_option linter.unusedVariables false
set_option linter.unusedSimpArgs false
theorem J43:agq Tryz.prog 51=some [(0,0),(1,0),(2,0)]:=by kernel_rfl
end Go.Proofs.YtfbfdnoodccgiaaGreatDoor
