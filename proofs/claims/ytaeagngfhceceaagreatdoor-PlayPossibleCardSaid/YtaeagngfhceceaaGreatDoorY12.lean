/- Merged texts of this proof (walks and plain laws), printed by a program of the prover. -/
import Derived.Test.YtaeagngfhceceaaGreatDoorZb
import Derived.Test.YtaeagngfhceceaaGreatDoorZp
import Derived.Test.YtaeagngfhceceaaGreatDoorZs
import Derived.Test.YtaeagngfhceceaaGreatDoorZx
import Derived.Test.YtaeagngfhceceaaGreatDoorZh
import Derived.Test.YtaeagngfhceceaaGreatDoorRows
namespace Go.Proofs.YtaeagngfhceceaaGreatDoor
set_option linter.unusedVariables false
set_option linter.unusedSimpArgs false
open Go.RowKit
def StepGV (G : GP) (x : PX) (m : Move) : Int × PX := if posG G x = 0 then if possB G x m = true then (0, nextX G x m) else (29, noP) else (posG G x, noP)
end Go.Proofs.YtaeagngfhceceaaGreatDoor
set_option maxHeartbeats 8000000
namespace Go.Proofs.YtaeagngfhceceaaGreatDoor
open Go.RowKit Go.Proofs
set_option maxRecDepth 100000
set_option linter.unusedVariables false
set_option linter.unusedSimpArgs false
theorem poss_legal {G : Game} {p : Pos} {m : Move} (h : possB G.p p.x m = true) : legalB G.rm p.st.x m = true := by
 unfold possB at h
 rw [playX_p] at h
 by_cases hL : legalB G.rm p.x.1 m = true
 ·
  exact hL
 ·
  rw [if_neg hL] at h; simp at h
theorem poss_play {G : Game} {p : Pos} {m : Move} (h : possB G.p p.x m = true) : (settleV G.rm (moveX G.rm p.st.x m)).isSome = true := by
 have hL : legalB G.rm p.x.1 m = true := poss_legal h
 unfold possB at h
 rw [playX_p, if_pos hL, Bool.and_eq_true] at h
 exact h.1
theorem next_in {G : Game} {p : Pos} {m : Move} (hP : GoodP G p) (h : possB G.p p.x m = true) : StIn G.rm ((settleV G.rm (moveX G.rm p.st.x m)).getD no3) := by
 have h1 := poss_play h
 cases hs : settleV G.rm (moveX G.rm p.st.x m) with
 | none => rw [hs] at h1; cases h1
 | some y => exact settleV_stay hP.ready (move_stay hP.ready hP.inn (poss_legal h)) hs
theorem nextX_p {G : Game} {p : Pos} {m : Move} (h : possB G.p p.x m = true) : nextX G.p p.x m = ((settleV G.rm (moveX G.rm p.st.x m)).getD no3, readX G.p ((settleV G.rm (moveX G.rm p.st.x m)).getD no3) p.rd.l) := by
 have hL : legalB G.rm p.x.1 m = true := poss_legal h
 unfold nextX
 rw [playX_p, if_pos hL]
 rfl
end Go.Proofs.YtaeagngfhceceaaGreatDoor
set_option maxHeartbeats 8000000
namespace Go.Proofs.YtaeagngfhceceaaGreatDoor
open Go.RowKit Go.Proofs
set_option maxRecDepth 100000
set_option linter.unusedVariables false
set_option linter.unusedSimpArgs false
theorem nextX_in {G : Game} {p : Pos} {m : Move} (hP : GoodP G p) (h : possB G.p p.x m = true) : StIn G.rm (nextX G.p p.x m).1 := by
 rw [nextX_p h]; exact next_in hP h
end Go.Proofs.YtaeagngfhceceaaGreatDoor
set_option maxHeartbeats 8000000
namespace Go.Proofs.YtaeagngfhceceaaGreatDoor
open Go.ChangeShapes Go.WideShapes Go.ChangeAt Go.RowKit Go.Proofs Go.Joins
set_option maxRecDepth 100000
set_option linter.unusedVariables false
set_option linter.unusedSimpArgs false
section
variable {H : Type} {enc : TypeId × Value → H} {w : World} {base : Nat} {held : Bool}
theorem rd_Move : Rd enc Tryz.prog w base held 91 cMove := by
 intro fuel cs x h
 obtain ⟨xs, n, _, _, hl, hlen, hf⟩ := DataW.trod_struct Tryz.underlying91 h
 rw [show Tryz.prog.cellsOf 91 = 3 by kernel_rfl] at hl
 match cs, hl with
 | [c0, c1, c2], _ =>
  match xs, hlen with
  | [y0, y1, y2], _ =>
   have z0 : Tryz.prog.cellsOf 3 = 1 := by kernel_rfl
   have q0 : DataW.trod enc Tryz.prog w base (fun _ => true) held n 3 (([c0, c1, c2].drop 0).take (Tryz.prog.cellsOf 3)) = [y0, y1, y2][0]? := hf 0 _ rfl
   rw [z0] at q0
   obtain ⟨a0, e0, r0⟩ := (rd_int Tryz.underlying3) _ _ _ (show DataW.trod enc Tryz.prog w base (fun _ => true) held n 3 [c0] = some y0 from q0)
   have q1 : DataW.trod enc Tryz.prog w base (fun _ => true) held n 3 (([c0, c1, c2].drop 1).take (Tryz.prog.cellsOf 3)) = [y0, y1, y2][1]? := hf 1 _ rfl
   rw [z0] at q1
   obtain ⟨a1, e1, r1⟩ := (rd_int Tryz.underlying3) _ _ _ (show DataW.trod enc Tryz.prog w base (fun _ => true) held n 3 [c1] = some y1 from q1)
   have q2 : DataW.trod enc Tryz.prog w base (fun _ => true) held n 3 (([c0, c1, c2].drop 2).take (Tryz.prog.cellsOf 3)) = [y0, y1, y2][2]? := hf 2 _ rfl
   rw [z0] at q2
   obtain ⟨a2, e2, r2⟩ := (rd_int Tryz.underlying3) _ _ _ (show DataW.trod enc Tryz.prog w base (fun _ => true) held n 3 [c2] = some y2 from q2)
   obtain rfl : c0 = _ := (List.cons.inj e0).1
   obtain rfl : c1 = _ := (List.cons.inj e1).1
   obtain rfl : c2 = _ := (List.cons.inj e2).1
   exact ⟨⟨a0, a1, a2⟩, rfl, trivial⟩
end
end Go.Proofs.YtaeagngfhceceaaGreatDoor
