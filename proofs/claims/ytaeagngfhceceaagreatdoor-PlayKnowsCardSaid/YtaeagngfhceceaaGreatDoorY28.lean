/- Merged texts of this proof (walks and plain laws), printed by a program of the prover. -/
import Derived.Test.YtaeagngfhceceaaGreatDoorY0
import Derived.Test.YtaeagngfhceceaaGreatDoorY12
import Derived.Test.YtaeagngfhceceaaGreatDoorY18
import Derived.Test.YtaeagngfhceceaaGreatDoorZp
import Derived.Test.YtaeagngfhceceaaGreatDoorZg
set_option maxHeartbeats 8000000
namespace Go.Proofs.YtaeagngfhceceaaGreatDoor
open Go.RowKit Go.Proofs
set_option maxRecDepth 100000
set_option linter.unusedVariables false
set_option linter.unusedSimpArgs false
theorem step_len {G : GP} {x : PX} {m : Move} (h : (StepGV G x m).1 = 0) : (StepGV G x m).2.2.length = x.2.length := by
 unfold StepGV at h ⊢
 split
 ·
  rename_i h1
  rw [if_pos h1] at h
  split
  ·
   exact readX_len
  ·
   rename_i h2; rw [if_neg h2] at h; cases h
 ·
  rename_i h1; rw [if_neg h1] at h; exact absurd h h1
section
variable {P : Program} {n0 : Nat} {w0 : World} {L : List SA} {l : List Value} {d : Option Tmp} {ty : TypeId} {ps : String} {af : Array Edge} {g : Option (Nat × Bool)}
end
end Go.Proofs.YtaeagngfhceceaaGreatDoor
