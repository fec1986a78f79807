/- Merged texts of this proof (walks and plain laws), printed by a program of the prover. -/
import Derived.Test.YtaeagngfhceceaaGreatDoorZa
import Derived.Lib.LazyBuf
namespace Go.Proofs.YtaeagngfhceceaaGreatDoor
set_option linter.unusedVariables false
set_option linter.unusedSimpArgs false
open Go.RowKit Go.Proofs
section
variable {n0 : Nat} {w0 u : World} {L : List SA}
end
section
variable {n0 : Nat} {w0 u : World} {L : List SA} {j : Nat} {v : Value}
end
section
variable {w0 : World} {L : List SA} {f : Value → Value} {t : Value}
theorem retIp {v : Value} {xs : List Int} (hp : ∀ S u, Star L S u → SlI u v xs) (hf : t = f v) :
    ∀ u, St w0.heap.size w0 L u → ∃ x : Value, (∃ u0, SlI u0 x xs) ∧ RetF w0 (f x) (roI x xs) (.returned t) u := by
  subst hf
  exact fun u hu => ⟨v, ⟨u, hp _ _ hu.star⟩, retR hp u hu⟩
theorem retIn {xs : List Int} (hx : [] = xs) (hf : t = f (.slice none 0 0)) :
    ∀ u, St w0.heap.size w0 L u → ∃ x : Value, (∃ u0, SlI u0 x xs) ∧ RetF w0 (f x) (roI x xs) (.returned t) u := by
  subst hx
  exact retIp (fun _ u _ => ⟨by simp, none, 0, rfl, by simp, Or.inl rfl⟩) hf
end
section
variable {P : Program} {ro : Option Nat} {n0 : Nat} {w0 : World} {ds : List Deferred} {ops : Array Oper} {Q : Exit → Act → World → Prop} {L : List SA}
  {rest : List Oper} {l : List Value} {d : Option Tmp} {ty : TypeId} {ps : String} {af : Array Edge} {g : Option (Nat × Bool)} {C : World → Prop} {fuel : Nat} {bl : List Bool}
end
end Go.Proofs.YtaeagngfhceceaaGreatDoor
namespace Go.Proofs.YtaeagngfhceceaaGreatDoor
set_option linter.unusedVariables false
set_option linter.unusedSimpArgs false
open Go.RowKit
section
variable {P : Program} {ro : Option Nat} {n0 : Nat} {w0 : World} {ds : List Deferred} {ops : Array Oper} {Q : Exit → Act → World → Prop} {L : List SA}
  {rest : List Oper} {l : List Value} {C : World → Prop} {s : Nat}
variable {bl bl' : List Bool} {fuel : Nat} {l' : List Value}
end
end Go.Proofs.YtaeagngfhceceaaGreatDoor
namespace Go.Proofs.YtaeagngfhceceaaGreatDoor
set_option linter.unusedVariables false
set_option linter.unusedSimpArgs false
open Go.RowKit Go.Proofs
section
variable {P : Program} {ro : Option Nat} {n0 : Nat} {w0 : World} {ds : List Deferred} {ops : Array Oper} {Q : Exit → Act → World → Prop} {L : List SA}
  {rest : List Oper} {l : List Value} {d : Option Tmp} {ty : TypeId} {ps : String} {af : Array Edge} {g : Option (Nat × Bool)} {C : World → Prop}
end
end Go.Proofs.YtaeagngfhceceaaGreatDoor
