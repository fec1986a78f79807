/- Merged texts of this proof (walks and plain laws), printed by a program of the prover. -/
import Derived.Test.YtaeagngfhceceaaGreatDoorZs
import Derived.Test.YtaeagngfhceceaaGreatDoorZl
set_option maxHeartbeats 8000000
namespace Go.Proofs.YtaeagngfhceceaaGreatDoor
open Go.RowKit Go.Proofs
set_option maxRecDepth 100000
set_option linter.unusedVariables false
set_option linter.unusedSimpArgs false
theorem HasZ.pack {w : World} {z : Stt} {Z : SA} {B : List SA} {j : Nat} (hZ : HasZ w Z z) (hj : B[j]? = some Z) : HasZ w (Go.Proofs.YtaeagngfhceceaaGreatDoor.star B) z := ⟨fun {L} {u} {i} hi hu => by
 have h1 : St w.heap.size w (Go.Proofs.YtaeagngfhceceaaGreatDoor.star B :: L.eraseIdx i) u := hu.perm (perm_erase hi)
 have hjl := (List.getElem?_eq_some_iff.1 hj).1
 exact hZ.get (L := B ++ L.eraseIdx i) (j := j) (by rw [List.getElem?_append_left hjl]; exact hj) h1.unpack⟩
end Go.Proofs.YtaeagngfhceceaaGreatDoor
set_option maxHeartbeats 8000000
namespace Go.Proofs.YtaeagngfhceceaaGreatDoor
open Go.RowKit Go.Proofs
set_option maxRecDepth 100000
set_option linter.unusedVariables false
set_option linter.unusedSimpArgs false
end Go.Proofs.YtaeagngfhceceaaGreatDoor
set_option maxHeartbeats 8000000
namespace Go.Proofs.YtaeagngfhceceaaGreatDoor
open Go.RowKit Go.Proofs
set_option maxRecDepth 100000
set_option linter.unusedVariables false
set_option linter.unusedSimpArgs false
end Go.Proofs.YtaeagngfhceceaaGreatDoor
