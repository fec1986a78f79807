/- Merged texts of this proof (walks and plain laws), printed by a program of the prover. -/
import Derived.Test.YtaeagngfhceceaaGreatDoorY1
import Derived.Test.YtaeagngfhceceaaGreatDoorY4
import Derived.Test.YtaeagngfhceceaaGreatDoorZb
import Derived.Test.YtaeagngfhceceaaGreatDoorZh
import Derived.Test.YtaeagngfhceceaaGreatDoorZg
import Derived.Test.YtaeagngfhceceaaGreatDoorZc
import Derived.Test.YtaeagngfhceceaaGreatDoorZm
namespace Go.Proofs.YtaeagngfhceceaaGreatDoor
set_option linter.unusedVariables false
set_option linter.unusedSimpArgs false
open Go.RowKit
theorem cmp_move (x y : Move) : cmps (cMove.cells x) (cMove.cells y) [(0, 0), (1, 0), (2, 0)] = some (decide (x = y)) := by
  cases x; cases y
  simp only [cmps, cmp1, cMove, List.getElem?_cons_zero, List.getElem?_cons_succ, Move.mk.injEq]
  simp
end Go.Proofs.YtaeagngfhceceaaGreatDoor
set_option maxHeartbeats 8000000
namespace Go.Proofs.YtaeagngfhceceaaGreatDoor
open Go.RowKit Go.Proofs
set_option maxRecDepth 100000
set_option linter.unusedVariables false
set_option linter.unusedSimpArgs false
theorem agMove : agq Tryz.prog 91 = some [(0, 0), (1, 0), (2, 0)] := by kernel_rfl
end Go.Proofs.YtaeagngfhceceaaGreatDoor
