/- Merged texts of this proof (walks and plain laws), printed by a program of the prover. -/
import Derived.Test.YtohneogdekdboaaGreatDoorZx
import Derived.Test.YtohneogdekdboaaGreatDoorZb
set_option maxHeartbeats 8000000
namespace Go.Proofs.YtohneogdekdboaaGreatDoor
open Go.ChangeShapes Go.WideShapes Go.ChangeAt Go.RowKit Go.Proofs Go.Joins
set_option maxRecDepth 100000
set_option linter.unusedVariables false
set_option linter.unusedSimpArgs false
section
variable {H : Type} {enc : TypeId × Value → H} {w : World} {base : Nat} {held : Bool}
theorem Jto : Rd enc Tryz.prog w base held 77 cTimed := by
 intro fuel cs x h
 obtain ⟨xs, n, _, _, hl, hlen, hf⟩ := DataW.trod_struct Tryz.underlying77 h
 rw [show Tryz.prog.cellsOf 77 = 4 by kernel_rfl] at hl
 match cs, hl with
 | [c0, c1, c2, c3], _ =>
  match xs, hlen with
  | [y0, y1], _ =>
   have z0 : Tryz.prog.cellsOf 71 = 3 := by kernel_rfl
   have z1 : Tryz.prog.cellsOf 3 = 1 := by kernel_rfl
   have q0 : DataW.trod enc Tryz.prog w base (fun _ => true) held n 3 (([c0, c1, c2, c3].drop 0).take (Tryz.prog.cellsOf 3)) = [y0, y1][0]? := hf 0 _ rfl
   rw [z1] at q0
   obtain ⟨a0, e0, r0⟩ := (Jbf Tryz.underlying3) _ _ _ (show DataW.trod enc Tryz.prog w base (fun _ => true) held n 3 [c0] = some y0 from q0)
   have q1 : DataW.trod enc Tryz.prog w base (fun _ => true) held n 71 (([c0, c1, c2, c3].drop 1).take (Tryz.prog.cellsOf 71)) = [y0, y1][1]? := hf 1 _ rfl
   rw [z0] at q1
   obtain ⟨a1, e1, r1⟩ := Jzq _ _ _ (show DataW.trod enc Tryz.prog w base (fun _ => true) held n 71 [c1, c2, c3] = some y1 from q1)
   obtain rfl : c0 = _ := (List.cons.inj e0).1
   obtain rfl : c1 = _ := (List.cons.inj e1).1
   obtain rfl : c2 = _ := (List.cons.inj (List.cons.inj e1).2).1
   obtain rfl : c3 = _ := (List.cons.inj (List.cons.inj (List.cons.inj e1).2).2).1
   exact ⟨⟨a0, a1⟩, rfl, trivial⟩
end
end Go.Proofs.YtohneogdekdboaaGreatDoor
