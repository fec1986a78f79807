/- Merged texts of this proof (walks and plain laws), printed by a program of the prover. -/
import Derived.Test.YtaeagngfhceceaaGreatDoorZt
set_option maxHeartbeats 8000000
namespace Go.Proofs.YtaeagngfhceceaaGreatDoor
open Go.RowKit Go.Proofs
set_option maxRecDepth 100000
set_option linter.unusedVariables false
set_option linter.unusedSimpArgs false
theorem pos_ok {G : Game} {p : Pos} (hc : checkG G.p = 0) (hI : StIn G.rm p.st.x) (hl : p.rd.l.length = G.nts.l.length) : posG G.p p.x = 0 := by
 rw [posG_p, or0_z hc, or0_z (show stateE G.rm p.st = 0 from stL_in.2 ⟨(good_of hc).ck, hI⟩), if_pos (by omega)]
end Go.Proofs.YtaeagngfhceceaaGreatDoor
