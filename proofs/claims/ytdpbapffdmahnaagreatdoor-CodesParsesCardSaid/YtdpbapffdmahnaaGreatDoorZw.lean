/- Merged texts of this proof (walks and plain laws), printed by a program of the prover. -/
import Derived.Test.YtdpbapffdmahnaaGreatDoorZb
import Derived.Test.YtdpbapffdmahnaaGreatDoorZz
import Derived.Test.YtdpbapffdmahnaaGreatDoorRows
set_option maxHeartbeats 8000000
namespace Go.Proofs.YtdpbapffdmahnaaGreatDoor
open Go.ChangeShapes Go.WideShapes Go.ChangeAt Go.RowKit Go.Proofs Go.Joins
set_option maxRecDepth 100000
set_option linter.unusedVariables false
set_option linter.unusedSimpArgs false
theorem Jjf {W:World} (h:W.ShapedOpen Tryz.prog):MaxOk W :=
 cell_of_shapedOpen_int (zero := #[.int .i64 0]) (t:=3) h (of_decide_eq_true (by kernel_rfl)) (by kernel_rfl) rfl (by kernel_rfl) (by kernel_rfl) Tryz.underlying3
def cLk:Cel (Int × Int):=⟨2,fun a=>[.int .i64 a.1,.int .i64 a.2],fun _ _=>True,fun _=>rfl,fun _ _ _ _ _=>trivial,fun _ _ _ v hv=>by simp at hv; rcases hv with rfl | rfl <;> rfl⟩
section
variable {H:Type} {enc:TypeId × Value→H} {w:World} {base:Nat} {held:Bool}
theorem Joe:Rd enc Tryz.prog w base held 45 cLk:=by
 intro fuel cs x h
 obtain ⟨xs,n,_,_,hl,hlen,hf⟩:=DataW.trod_struct Tryz.underlying45 h
 rw [show Tryz.prog.cellsOf 45=2 by kernel_rfl] at hl
 match cs,hl with
 | [c0,c1],_ =>
  match xs,hlen with
  | [y0,y1],_ =>
   have z0:Tryz.prog.cellsOf 3=1:=by kernel_rfl
   have q0:DataW.trod enc Tryz.prog w base (fun _=>true) held n 3 (([c0,c1].drop 0).take (Tryz.prog.cellsOf 3))=[y0,y1][0]?:=hf 0 _ rfl
   rw [z0] at q0
   obtain ⟨a0,e0,r0⟩:=(Jk8 Tryz.underlying3) _ _ _ (show DataW.trod enc Tryz.prog w base (fun _=>true) held n 3 [c0]=some y0 from q0)
   have q1:DataW.trod enc Tryz.prog w base (fun _=>true) held n 3 (([c0,c1].drop 1).take (Tryz.prog.cellsOf 3))=[y0,y1][1]?:=hf 1 _ rfl
   rw [z0] at q1
   obtain ⟨a1,e1,r1⟩:=(Jk8 Tryz.underlying3) _ _ _ (show DataW.trod enc Tryz.prog w base (fun _=>true) held n 3 [c1]=some y1 from q1)
   obtain rfl:c0=_:=(List.cons.inj e0).1
   obtain rfl:c1=_:=(List.cons.inj e1).1
   exact ⟨(a0,a1),rfl,trivial⟩
end
end Go.Proofs.YtdpbapffdmahnaaGreatDoor
