/- Merged texts of this proof (walks and plain laws), printed by a program of the prover. -/
import Derived.Test.YtaeagngfhceceaaGreatDoorY6
import Derived.Test.YtaeagngfhceceaaGreatDoorZb
import Derived.Test.YtaeagngfhceceaaGreatDoorProg
import Derived.KernelRfl
import Derived.Test.YtaeagngfhceceaaGreatDoorZc
import Derived.Test.YtaeagngfhceceaaGreatDoorZq
namespace Go.Proofs.YtaeagngfhceceaaGreatDoor
set_option linter.unusedVariables false
set_option linter.unusedSimpArgs false
open Go.RowKit
def allN (G : GP) (lk : Int) : List Int := filI G.nts.length fun i => decide ((nth G.nts i).lk = lk)
end Go.Proofs.YtaeagngfhceceaaGreatDoor
namespace Go.Proofs.YtaeagngfhceceaaGreatDoor
set_option linter.unusedVariables false
set_option linter.unusedSimpArgs false
open Go.RowKit
section
variable {P : Program} {ro : Option Nat} {n0 : Nat} {w0 : World} {ds : List Deferred} {ops : Array Oper} {Q : Exit → Act → World → Prop} {L : List SA}
  {rest : List Oper} {l : List Value} {d : Option Tmp} {ty : TypeId} {ps : String} {af : Array Edge} {g : Option (Nat × Bool)} {C : World → Prop}
end
theorem allN_p (G : Game) (lk : Int) : allN G.p lk = filI G.nts.l.length fun i => decide ((nth G.nts.l i).lk = lk) := by
  unfold allN; rw [Game.p_nlen]
  congr 1; funext i; rw [Game.p_nts]; rfl
theorem about_all (G : GP) (lk : Int) : aboutN G lk (fun _ => true) = allN G lk := by
  unfold aboutN allN; congr 1; funext i; exact Bool.and_true _
theorem all_of {G : Game} {lk : Int} : NotesOf G lk (allN G.p lk) := fun k hk => by
  rw [allN_p] at hk
  obtain ⟨h1, h2⟩ := mem_filI hk
  exact ⟨h1, of_decide_eq_true h2⟩
theorem all_len {G : Game} (hV : GoodG G) (lk : Int) : (allN G.p lk).length ≤ 16 := by
  rw [← about_all]; exact about_len hV _ _
end Go.Proofs.YtaeagngfhceceaaGreatDoor
namespace Go.Proofs.YtaeagngfhceceaaGreatDoor
open Go.Proofs
theorem ent65 : Ent Tryz.prog 65 := ent_of Tryz.func65 (by kernel_rfl) rfl
end Go.Proofs.YtaeagngfhceceaaGreatDoor
set_option maxHeartbeats 8000000
namespace Go.Proofs.YtaeagngfhceceaaGreatDoor
open Go.RowKit Go.Proofs
set_option maxRecDepth 100000
set_option linter.unusedVariables false
set_option linter.unusedSimpArgs false
theorem every_c (i : Int) (w : World) :
  Calls Tryz.prog 65 #[.int .i64 i] w (RetB w (.bool true)) := by
 refine enter Tryz.func65 rfl rfl (Nat.le_of_ble_eq_true rfl) ?_
 refine Nz 1 ?_
 refine Wd (Qc (Nz 1 ?_))
 exact Wd (Qc (Cr (out1 rfl rfl retB)))
end Go.Proofs.YtaeagngfhceceaaGreatDoor
