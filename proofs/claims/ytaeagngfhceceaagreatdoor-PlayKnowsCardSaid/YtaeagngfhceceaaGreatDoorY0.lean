/- Merged texts of this proof (walks and plain laws), printed by a program of the prover. -/
import Derived.Test.YtaeagngfhceceaaGreatDoorZb
namespace Go.Proofs.YtaeagngfhceceaaGreatDoor
set_option linter.unusedVariables false
set_option linter.unusedSimpArgs false
open Go.RowKit
section
variable {P : Program} {ro : Option Nat} {n0 : Nat} {w0 : World} {ds : List Deferred} {ops : Array Oper} {Q : Exit → Act → World → Prop} {L : List SA}
  {rest : List Oper} {l : List Value} {d : Option Tmp} {ty : TypeId} {ps : String} {af : Array Edge} {g : Option (Nat × Bool)} {C : World → Prop}
end
theorem clu_of {G : Game} {rd : List Bool} {lk : Int} : NotesOf G lk (cluN G.p rd lk) := fun k hk => by
  rw [cluN_p] at hk
  obtain ⟨h1, h2⟩ := mem_filI hk
  simp only [Bool.and_eq_true, decide_eq_true_eq] at h2
  exact ⟨h1, h2.2⟩
end Go.Proofs.YtaeagngfhceceaaGreatDoor
