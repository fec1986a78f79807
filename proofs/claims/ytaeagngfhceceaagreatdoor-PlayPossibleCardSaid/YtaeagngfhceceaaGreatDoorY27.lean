/- Merged texts of this proof (walks and plain laws), printed by a program of the prover. -/
import Derived.Test.YtaeagngfhceceaaGreatDoorY11
import Derived.Test.YtaeagngfhceceaaGreatDoorY12
import Derived.Test.YtaeagngfhceceaaGreatDoorY17
import Derived.Test.YtaeagngfhceceaaGreatDoorY18
import Derived.Test.YtaeagngfhceceaaGreatDoorZu
import Derived.Test.YtaeagngfhceceaaGreatDoorZb
import Derived.Test.YtaeagngfhceceaaGreatDoorZz
import Derived.Test.YtaeagngfhceceaaGreatDoorZv
import Derived.Test.YtaeagngfhceceaaGreatDoorZw
set_option maxHeartbeats 8000000
namespace Go.Proofs.YtaeagngfhceceaaGreatDoor
open Go.RowKit Go.Proofs
set_option maxRecDepth 100000
set_option linter.unusedVariables false
set_option linter.unusedSimpArgs false
def posOf (x : PX) : Pos := ⟨⟨⟨.slice none 0 0, x.1.1⟩, ⟨.slice none 0 0, x.1.2.1⟩, ⟨.slice none 0 0, x.1.2.2⟩⟩, ⟨.slice none 0 0, x.2⟩⟩
end Go.Proofs.YtaeagngfhceceaaGreatDoor
set_option maxHeartbeats 8000000
namespace Go.Proofs.YtaeagngfhceceaaGreatDoor
open Go.RowKit Go.Proofs
set_option maxRecDepth 100000
set_option linter.unusedVariables false
set_option linter.unusedSimpArgs false
theorem step_good {G : Game} {p : Pos} {m : Move} (h : (StepGV G.p p.x m).1 = 0) : possB G.p p.x m = true ∧ (StepGV G.p p.x m).2 = nextX G.p p.x m ∧ posG G.p (StepGV G.p p.x m).2 = 0 := by
 have hq := step_pos h
 have hP := goodp_of hq
 have hb : possB G.p p.x m = true := by
  unfold StepGV at h
  rw [if_pos hq] at h
  split at h
  ·
   assumption
  ·
   cases h
 have e : StepGV G.p p.x m = (0, nextX G.p p.x m) := (if_pos hq).trans (if_pos hb)
 refine ⟨hb, by rw [e], ?_⟩
 rw [e]
 have h2 := stepR_in (m := m) hP
 rw [stepR_yes hb] at h2
 exact pos_ok (p := posOf (nextX G.p p.x m)) (posG_ck hq) h2.1 h2.2
theorem step_err_g {G : GP} {x : PX} {m : Move} (hq : posG G x = 0) : (StepGV G x m).1 = 0 ∨ (StepGV G x m).1 = 29 := by
 unfold StepGV
 rw [if_pos hq]
 split
 ·
  exact .inl rfl
 ·
  exact .inr rfl
end Go.Proofs.YtaeagngfhceceaaGreatDoor
