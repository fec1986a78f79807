/- Merged texts of this proof (walks and plain laws), printed by a program of the prover. -/
import Derived.Test.YtohneogdekdboaaGreatDoorY0
import Derived.Test.YtohneogdekdboaaGreatDoorY1
import Derived.Test.YtohneogdekdboaaGreatDoorY2
import Derived.Test.YtohneogdekdboaaGreatDoorY3
import Derived.Test.YtohneogdekdboaaGreatDoorY6
import Derived.Test.YtohneogdekdboaaGreatDoorZv
import Derived.Test.YtohneogdekdboaaGreatDoorZw
set_option maxHeartbeats 8000000
namespace Go.Proofs.YtohneogdekdboaaGreatDoor
open Go.RowKit Go.Proofs
set_option maxRecDepth 100000
set_option linter.unusedVariables false
set_option linter.unusedSimpArgs false
theorem Jwo {α β : Type} [Inhabited α] {f : α → β} {l m : List α} (h : l.map f = m.map f) (i : Int) : f (nth l i) = f (nth m i) := by
 have h2 := congrArg (fun q : List β => q[i.toNat]?) h
 simp only [List.getElem?_map] at h2
 unfold nth
 simp only [List.getD]
 cases h3 : l[i.toNat]? <;> cases h4 : m[i.toNat]? <;> simp_all
end Go.Proofs.YtohneogdekdboaaGreatDoor
