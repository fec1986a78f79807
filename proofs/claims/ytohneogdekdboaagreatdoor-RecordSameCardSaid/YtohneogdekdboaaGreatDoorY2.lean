/- Merged texts of this proof (walks and plain laws), printed by a program of the prover. -/
import Derived.Test.YtohneogdekdboaaGreatDoorZx
import Derived.Test.YtohneogdekdboaaGreatDoorZb
set_option maxHeartbeats 8000000
namespace Go.Proofs.YtohneogdekdboaaGreatDoor
open Go.ChangeShapes Go.WideShapes Go.ChangeAt Go.RowKit Go.Proofs Go.Joins
set_option maxRecDepth 100000
set_option linter.unusedVariables false
set_option linter.unusedSimpArgs false
section
variable {H : Type} {enc : TypeId × Value → H} {w : World} {base : Nat} {held : Bool}
theorem Jjw : Rd enc Tryz.prog w base held 73 cEntry := by
 intro fuel cs x h
 obtain ⟨xs, n, _, _, hl, hlen, hf⟩ := DataW.trod_struct Tryz.underlying73 h
 rw [show Tryz.prog.cellsOf 73 = 7 by kernel_rfl] at hl
 match cs, hl with
 | [c0, c1, c2, c3, c4, c5, c6], _ =>
  match xs, hlen with
  | [y0, y1, y2, y3, y4], _ =>
   have z0 : Tryz.prog.cellsOf 71 = 3 := by kernel_rfl
   have z1 : Tryz.prog.cellsOf 3 = 1 := by kernel_rfl
   have q0 : DataW.trod enc Tryz.prog w base (fun _ => true) held n 3 (([c0, c1, c2, c3, c4, c5, c6].drop 0).take (Tryz.prog.cellsOf 3)) = [y0, y1, y2, y3, y4][0]? := hf 0 _ rfl
   rw [z1] at q0
   obtain ⟨a0, e0, r0⟩ := (Jbf Tryz.underlying3) _ _ _ (show DataW.trod enc Tryz.prog w base (fun _ => true) held n 3 [c0] = some y0 from q0)
   have q1 : DataW.trod enc Tryz.prog w base (fun _ => true) held n 3 (([c0, c1, c2, c3, c4, c5, c6].drop 1).take (Tryz.prog.cellsOf 3)) = [y0, y1, y2, y3, y4][1]? := hf 1 _ rfl
   rw [z1] at q1
   obtain ⟨a1, e1, r1⟩ := (Jbf Tryz.underlying3) _ _ _ (show DataW.trod enc Tryz.prog w base (fun _ => true) held n 3 [c1] = some y1 from q1)
   have q2 : DataW.trod enc Tryz.prog w base (fun _ => true) held n 71 (([c0, c1, c2, c3, c4, c5, c6].drop 2).take (Tryz.prog.cellsOf 71)) = [y0, y1, y2, y3, y4][2]? := hf 2 _ rfl
   rw [z0] at q2
   obtain ⟨a2, e2, r2⟩ := Jzq _ _ _ (show DataW.trod enc Tryz.prog w base (fun _ => true) held n 71 [c2, c3, c4] = some y2 from q2)
   have q3 : DataW.trod enc Tryz.prog w base (fun _ => true) held n 3 (([c0, c1, c2, c3, c4, c5, c6].drop 5).take (Tryz.prog.cellsOf 3)) = [y0, y1, y2, y3, y4][3]? := hf 3 _ rfl
   rw [z1] at q3
   obtain ⟨a3, e3, r3⟩ := (Jbf Tryz.underlying3) _ _ _ (show DataW.trod enc Tryz.prog w base (fun _ => true) held n 3 [c5] = some y3 from q3)
   have q4 : DataW.trod enc Tryz.prog w base (fun _ => true) held n 3 (([c0, c1, c2, c3, c4, c5, c6].drop 6).take (Tryz.prog.cellsOf 3)) = [y0, y1, y2, y3, y4][4]? := hf 4 _ rfl
   rw [z1] at q4
   obtain ⟨a4, e4, r4⟩ := (Jbf Tryz.underlying3) _ _ _ (show DataW.trod enc Tryz.prog w base (fun _ => true) held n 3 [c6] = some y4 from q4)
   obtain rfl : c0 = _ := (List.cons.inj e0).1
   obtain rfl : c1 = _ := (List.cons.inj e1).1
   obtain rfl : c2 = _ := (List.cons.inj e2).1
   obtain rfl : c3 = _ := (List.cons.inj (List.cons.inj e2).2).1
   obtain rfl : c4 = _ := (List.cons.inj (List.cons.inj (List.cons.inj e2).2).2).1
   obtain rfl : c5 = _ := (List.cons.inj e3).1
   obtain rfl : c6 = _ := (List.cons.inj e4).1
   exact ⟨⟨a0, a1, a2, a3, a4⟩, rfl, trivial⟩
end
end Go.Proofs.YtohneogdekdboaaGreatDoor
