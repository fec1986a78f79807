/- Merged texts of this proof (walks and plain laws), printed by a program of the prover. -/
import Derived.Test.YtaeagngfhceceaaGreatDoorY3
import Derived.Test.YtaeagngfhceceaaGreatDoorY4
import Derived.Test.YtaeagngfhceceaaGreatDoorZb
import Derived.Laws.StructEq
import Derived.ChangeKeysEq
namespace Go.Proofs.YtaeagngfhceceaaGreatDoor
set_option linter.unusedVariables false
set_option linter.unusedSimpArgs false
open Go.RowKit
section
variable {P : Program}
variable {l : List Value} {d : Option Tmp} {ty : TypeId} {ps : String} {af : Array Edge} {g : Option (Nat × Bool)} {C : World → Prop}
theorem det_neAgg {T T' : TypeId} {x y : Operand} {xs ys : List Value} {b : Bool} {sp : List (Nat × Nat)} (hA : agq P T = some sp) (hx : evo l x = some (.agg xs.toArray)) (hy : evo l y = some (.agg ys.toArray)) (hb : cmps xs ys sp = some b) :
    Det P C ⟨d, .binOp .neq T x y T', ty, ps, af, g⟩ l (.bool (!b)) := fun u _ => by
  (replace hx := ev_of hx; replace hy := ev_of hy)
  obtain ⟨h1, h2⟩ := agq_run (w := u) hA hb
  simp [execOp, DetUpon, hx, hy, h1, run_neq_struct, h2]
end
end Go.Proofs.YtaeagngfhceceaaGreatDoor
namespace Go.Proofs.YtaeagngfhceceaaGreatDoor
set_option linter.unusedVariables false
set_option linter.unusedSimpArgs false
open Go.RowKit
theorem map_eq_nth {α β : Type} [Inhabited α] (f : α → β) {l m : List α} {i : Int} (hi : ¬ i < l.length) (hl : l.length = m.length) (h : ∀ j : Int, 0 ≤ j → j < i → f (nth l j) = f (nth m j)) : l.map f = m.map f := by
  apply List.ext_getElem (by simp [hl])
  intro k h1 h2
  have h3 : k < l.length := by simpa using h1
  have h4 : k < m.length := by omega
  have := h k (by omega) (by omega)
  simpa [nth, List.getD, h3, h4] using this
theorem eq_nth {α : Type} [Inhabited α] {l m : List α} {i : Int} (hi : ¬ i < l.length) (hl : l.length = m.length) (h : ∀ j : Int, 0 ≤ j → j < i → nth l j = nth m j) : l = m := by
  have := map_eq_nth (fun x => x) hi hl h
  simpa using this
end Go.Proofs.YtaeagngfhceceaaGreatDoor
