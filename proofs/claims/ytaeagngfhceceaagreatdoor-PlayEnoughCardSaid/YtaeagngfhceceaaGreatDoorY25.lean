/- Merged texts of this proof (walks and plain laws), printed by a program of the prover. -/
import Derived.Test.YtaeagngfhceceaaGreatDoorY11
import Derived.Test.YtaeagngfhceceaaGreatDoorZa
import Derived.Test.YtaeagngfhceceaaGreatDoorZb
namespace Go.Proofs.YtaeagngfhceceaaGreatDoor
set_option linter.unusedVariables false
set_option linter.unusedSimpArgs false
open Go.RowKit
section
variable {α : Type} (C : Cel α)
end
section
variable {α : Type} {C : Cel α} {w u : World} {s : Sl α}
end
section
variable {P : Program} {ro : Option Nat} {n0 : Nat} {w0 : World} {ds : List Deferred} {ops : Array Oper} {Q : Exit → Act → World → Prop} {L : List SA}
  {rest : List Oper} {l : List Value} {d : Option Tmp} {ty : TypeId} {ps : String} {af : Array Edge} {g : Option (Nat × Bool)} {D : World → Prop}
  {α : Type} {C : Cel α}
variable [Inhabited α]
end
section
variable {n0 : Nat} {w0 : World} {L : List SA} {α : Type}
theorem det_ldRU {P : Program} {l : List Value} {d : Option Tmp} {ty : TypeId} {ps : String} {af : Array Edge} {g : Option (Nat × Bool)} [Inhabited α] {C : Cel α} {T : TypeId} {z jj : Nat} (k j : Nat) {x : Operand} {y : Value} {s : Sl α} {i : Int}
    (hj' : L[jj]? = some (roT C s)) (hx : evo l x = some (.pointer (some ⟨slb s.v, slo s.v + i.toNat * k + j, none⟩))) (hk : C.k = k) (h : 0 ≤ i ∧ i < s.l.length) (hj : j < k)
    (hc : (C.cells (nth s.l i))[j]? = some y) (hT : tk P T = some (false, z)) : Det P (St n0 w0 L) ⟨d, .load T x, ty, ps, af, g⟩ l y := det_ldRc hj' (by rw [hx, sla, Nat.add_assoc]) rfl hk h hj hc hT
end
end Go.Proofs.YtaeagngfhceceaaGreatDoor
