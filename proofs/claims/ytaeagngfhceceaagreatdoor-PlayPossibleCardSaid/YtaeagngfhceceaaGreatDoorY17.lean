/- Merged texts of this proof (walks and plain laws), printed by a program of the prover. -/
import Derived.Test.YtaeagngfhceceaaGreatDoorY11
import Derived.Test.YtaeagngfhceceaaGreatDoorY12
import Derived.Test.YtaeagngfhceceaaGreatDoorZt
set_option maxHeartbeats 8000000
namespace Go.Proofs.YtaeagngfhceceaaGreatDoor
open Go.RowKit Go.Proofs
set_option maxRecDepth 100000
set_option linter.unusedVariables false
set_option linter.unusedSimpArgs false
theorem posG_ck {G : GP} {x : PX} (h : posG G x = 0) : checkG G = 0 := (or0_0 h).1
theorem stepR_in {G : Game} {p : Pos} {m : Move} (hP : GoodP G p) : StIn G.rm (stepR G.p p.x m).1 ∧ (stepR G.p p.x m).2.length = G.nts.l.length := by
 unfold stepR
 split
 ·
  rename_i h
  exact ⟨nextX_in hP h, by unfold nextX; rw [readX_len]; exact hP.ln⟩
 ·
  exact ⟨hP.inn, hP.ln⟩
end Go.Proofs.YtaeagngfhceceaaGreatDoor
