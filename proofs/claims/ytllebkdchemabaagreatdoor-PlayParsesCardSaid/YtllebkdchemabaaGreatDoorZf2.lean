/- Merged texts of this proof. -/
import Derived.Test.YtllebkdchemabaaGreatDoorZf
import Derived.Test.YtllebkdchemabaaGreatDoorZb
set_option maxHeartbeats 8000000
namespace Go.Proofs.YtllebkdchemabaaGreatDoor
open Go.RowKit Go.Proofs
set_option maxRecDepth 100000
set_option linter.unusedVariables false
set_option linter.unusedSimpArgs false
variable {f:Value->Value}
theorem retS {w0 u:World} {L:List SA} {is:List Nat} {e1 e2 e3:TypeId} {a b c:Value} {xs ys zs:List Int} (hs:selo L is=some [oints e1 a xs,oints e2 b ys,oints e3 c zs]) (hu:St w0.heap.size w0 L u):
  RetS w0 (xs,ys,zs) f (.returned (f (.agg #[a,b,c]))) u:=by
 have h1:=St.toRo (A:=star [oints e1 a xs,oints e2 b ys,oints e3 c zs]) (p:=fun u=>SttOk u ⟨⟨a,xs⟩,⟨b,ys⟩,⟨c,zs⟩⟩) (L:=[]) (fun S u h=>⟨SlI.tree (Star.oints (L:=[oints e1 a xs,oints e2 b ys,oints e3 c zs]) (j:=0) rfl h.1),SlI.tree (Star.oints (L:=[oints e1 a xs,oints e2 b ys,oints e3 c zs]) (j:=1) rfl h.1),SlI.tree (Star.oints (L:=[oints e1 a xs,oints e2 b ys,oints e3 c zs]) (j:=2) rfl h.1)⟩) (St.pack (L2:=[]) (by simpa using hu.sel is hs));exact⟨⟨⟨a,xs⟩,⟨b,ys⟩,⟨c,zs⟩⟩,⟨rfl,u,h1.ro (j:=0) rfl⟩,retF (j:=0) rfl u h1⟩
theorem S5 {w0 u:World} {L:List SA} (hu:St w0.heap.size w0 L u):RetS w0 no3 f (.returned (f (.agg #[.slice none 0 0,.slice none 0 0,.slice none 0 0]))) u:=by
 have h1:St w0.heap.size w0 (oints 3 (.slice none 0 0) []::L) u:=St.osl0 hu;have h2:St w0.heap.size w0 (oints 3 (.slice none 0 0) []::oints 3 (.slice none 0 0) []::L) u:=St.osl0 h1;have h3:St w0.heap.size w0 (oints 3 (.slice none 0 0) []::oints 3 (.slice none 0 0) []::oints 3 (.slice none 0 0) []::L) u:=St.osl0 h2;exact retS (is:=[0,0,0]) rfl h3
end Go.Proofs.YtllebkdchemabaaGreatDoor
