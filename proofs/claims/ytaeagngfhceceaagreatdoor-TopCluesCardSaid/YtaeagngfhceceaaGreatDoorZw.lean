/- Merged texts of this proof (walks and plain laws), printed by a program of the prover. -/
import Derived.Test.YtaeagngfhceceaaGreatDoorZv
set_option maxHeartbeats 8000000
namespace Go.Proofs.YtaeagngfhceceaaGreatDoor
open Go.RowKit Go.Proofs
set_option maxRecDepth 100000
set_option linter.unusedVariables false
set_option linter.unusedSimpArgs false
theorem alikeG {a b : Game} (h : a.p = b.p) : a.rm.e = b.rm.e ∧ a.lks.l = b.lks.l ∧ a.cds.l.map Sl.l = b.cds.l.map Sl.l ∧ a.nts.l.map NoteD.p = b.nts.l.map NoteD.p ∧ a.tr = b.tr :=
 ⟨congrArg GP.rm h, congrArg GP.lks h, congrArg GP.cds h, congrArg GP.nts h, congrArg GP.tr h⟩
theorem map_at {α β : Type} [Inhabited α] {f : α → β} {l m : List α} (h : l.map f = m.map f) (i : Int) : f (nth l i) = f (nth m i) := by
 have h2 := congrArg (fun q : List β => q[i.toNat]?) h
 simp only [List.getElem?_map] at h2
 unfold nth
 simp only [List.getD]
 cases h3 : l[i.toNat]? <;> cases h4 : m[i.toNat]? <;> simp_all
end Go.Proofs.YtaeagngfhceceaaGreatDoor
