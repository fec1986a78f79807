/- Merged texts of this proof (walks and plain laws), printed by a program of the prover. -/
import Derived.Test.YtohneogdekdboaaGreatDoorY1
import Derived.Test.YtohneogdekdboaaGreatDoorY2
import Derived.Test.YtohneogdekdboaaGreatDoorY4
import Derived.Test.YtohneogdekdboaaGreatDoorY6
import Derived.Test.YtohneogdekdboaaGreatDoorXc
import Derived.Test.YtohneogdekdboaaGreatDoorXd
set_option maxHeartbeats 8000000
namespace Go.Proofs.YtohneogdekdboaaGreatDoor
open Go.RowKit Go.Proofs
set_option maxRecDepth 100000
set_option linter.unusedVariables false
set_option linter.unusedSimpArgs false
theorem Jld {G : GP} {e : Entr} {l : List Entr} {i last : Int} {f F : Film} (h : Jb1 G (e :: l) i last f = .ok F) : Jcc last e = true ∧ ∃ f', Jaz G f e = some f' ∧ Jb1 G l (i + 1) e.t f' = .ok F := by
 unfold Jb1 at h
 split at h
 ·
  rename_i ht
  cases hs : Jaz G f e with
  | none => rw [hs] at h; cases h
  | some f' => rw [hs] at h; exact ⟨ht, f', rfl, h⟩
 cases h
end Go.Proofs.YtohneogdekdboaaGreatDoor
