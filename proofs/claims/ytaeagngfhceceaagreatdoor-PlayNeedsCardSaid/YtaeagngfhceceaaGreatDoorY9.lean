/- Merged texts of this proof (walks and plain laws), printed by a program of the prover. -/
import Derived.Test.YtaeagngfhceceaaGreatDoorY2
import Derived.Test.YtaeagngfhceceaaGreatDoorZb
namespace Go.Proofs.YtaeagngfhceceaaGreatDoor
set_option linter.unusedVariables false
set_option linter.unusedSimpArgs false
open Go.RowKit
theorem det_ldP {P : Program} {n0 : Nat} {w0 : World} {L : List SA} {l : List Value} {d : Option Tmp} {ty : TypeId} {ps : String} {af : Array Edge} {g : Option (Nat × Bool)} {T : TypeId} {x : Operand} {p : World → Prop} {v : Value} {xs : List Int} {i : Int} {j z : Nat}
    (hj : L[j]? = some (roS p)) (hp : ∀ u, p u → SlI u v xs) (hx : evo l x = some (.pointer (some (sla v i.toNat)))) (h : 0 ≤ i ∧ i < xs.length) (hT : tk P T = some (false, z)) : Det P (St n0 w0 L) ⟨d, .load T x, ty, ps, af, g⟩ l (.int .i64 (nth xs i)) :=
  det_loadS hx (fun _ hu => hp _ (St.ro hj hu)) (nth_map h) hT
end Go.Proofs.YtaeagngfhceceaaGreatDoor
