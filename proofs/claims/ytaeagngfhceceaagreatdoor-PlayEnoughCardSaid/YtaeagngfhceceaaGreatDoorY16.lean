/- Merged texts of this proof (walks and plain laws), printed by a program of the prover. -/
import Derived.Test.YtaeagngfhceceaaGreatDoorZb
namespace Go.Proofs.YtaeagngfhceceaaGreatDoor
set_option linter.unusedVariables false
set_option linter.unusedSimpArgs false
open Go.RowKit
section
variable {P : Program} [Fx P]
end
section
variable {P : Program} [Fx P] {C : World → Prop} {l : List Value} {d : Option Tmp} {ty : TypeId} {ps : String} {af : Array Edge} {g : Option (Nat × Bool)}
end
section
variable {P : Program} [Fx P] {ro : Option Nat} {n0 : Nat} {w0 : World} {ds : List Deferred} {ops : Array Oper} {Q : Exit → Act → World → Prop} {L : List SA} {C : World → Prop}
variable {rest rest' : List Oper} {l l' l'' : List Value} {o : Oper} {d j s : Nat} {v : Value} {b c x want : Bool} {bl bl' bl'' : List Bool} {fuel fuel' na : Nat}
end
section
variable {P : Program} {ro : Option Nat} {n0 : Nat} {w0 : World} {ds : List Deferred} {ops : Array Oper} {Q : Exit → Act → World → Prop} {L : List SA} {C : World → Prop} {l : List Value} {o : Oper} {s : Nat} {bl bl' : List Bool} {fuel : Nat}
end
section
variable {P : Program} {C : World → Prop} {l : List Value} {d : Option Tmp} {ty : TypeId} {ps : String} {af : Array Edge} {g : Option (Nat × Bool)} {v : Value}
variable {n0 : Nat} {w0 : World} {L : List SA} {T T' e e' : TypeId} {x y z : Operand} {i b o a k q q' m n : Nat} {c cs : List Value} {vv : Value} {xs : List Int} {ii aa bb : Int} {w : World} {ik : IntKind} {ba bc br : Bool}
end
section
variable {P : Program} [Fx P] {C : World → Prop} {l : List Value} {d : Option Tmp} {ty : TypeId} {ps : String} {af : Array Edge} {g : Option (Nat × Bool)} {v : Value}
variable {n0 : Nat} {w0 : World} {L : List SA} {T T' e e' : TypeId} {x y z : Operand} {i b o a k q q' m n : Nat} {c cs : List Value} {vv : Value} {xs : List Int} {ii aa bb : Int} {w : World} {ik : IntKind} {ba bc br : Bool}
theorem Nb (j : Nat) (hx : evo l x = some vv := by exact op_) (hj : L[j]? = some (oints e' vv xs) := by exact rfl) (hT : slf P T = some (e, a, q) := by exact rfl) : Det P (St n0 w0 L) ⟨d, .call ⟨.builtin .len, #[x], #[T]⟩, ty, ps, af, g⟩ l (.int .i64 xs.length) := det_lenOI (slf_ok hT) hx hj
section
variable {α : Type} {K : Cel α} {s : Sl α}
variable [Inhabited α]
end
end
section
variable {P : Program} [Fx P] {ro : Option Nat} {n0 : Nat} {w0 : World} {ds : List Deferred} {ops : Array Oper} {Q : Exit → Act → World → Prop} {L L' : List SA} {l l'' : List Value} {T ty e : TypeId} {x y : Operand} {ps : String} {af : Array Edge} {b i q d : Nat} {bq_ : Bool} {c c' vs : List Value} {v : Value} {rest rest' : List Oper}
variable {ll : Nat → List Value} {rr : Nat → List Oper} {lz : Nat → List Value}
end
section
variable {P : Program} {ro : Option Nat} {n0 : Nat} {w0 : World} {ds : List Deferred} {ops : Array Oper} {Q : Exit → Act → World → Prop} {L : List SA} {C : World → Prop} {l : List Value} {o : Oper} {b : Bool} {rest : List Oper}
end
end Go.Proofs.YtaeagngfhceceaaGreatDoor
