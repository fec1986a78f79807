/- Merged texts of this proof (walks and plain laws), printed by a program of the prover. -/
import Derived.Test.YtbboikncaihafaaGreatDoorXd
import Derived.Test.YtbboikncaihafaaGreatDoorZw
set_option maxHeartbeats 8000000
namespace Go.Proofs.YtbboikncaihafaaGreatDoor
open Go.RowKit Go.Proofs
set_option maxRecDepth 100000
set_option linter.unusedVariables false
set_option linter.unusedSimpArgs false
section
variable {P:Program} {ro:Option Nat} {n0:Nat} {w0:World} {ds:List Deferred} {ops:Array Oper} {Q:Exit→Act→World→Prop} {L:List SA} {rest:List Oper} {l:List Value}
theorem WS.ex {β:Type} {f:β→SA} (k:∀ b,WS P ro n0 w0 ds ops Q (f b::L) rest l):WS P ro n0 w0 ds ops Q (exS f::L) rest l:=fun u hu=>let ⟨b,hb⟩:=hu.ex; k b u hb
theorem WS.factE {p:Prop} {j:Nat} (hj:L[j]? = some (fact p)) (kk:p→WS P ro n0 w0 ds ops Q L rest l):WS P ro n0 w0 ds ops Q L rest l:=fun u hu=>kk (hu.factE hj) u hu
end
end Go.Proofs.YtbboikncaihafaaGreatDoor
