/- Merged texts of this proof (walks and plain laws), printed by a program of the prover. -/
import Derived.Test.YtdpbapffdmahnaaGreatDoorZb
import Derived.Test.YtdpbapffdmahnaaGreatDoorZz
import Derived.Test.YtdpbapffdmahnaaGreatDoorRows
set_option maxHeartbeats 8000000
namespace Go.Proofs.YtdpbapffdmahnaaGreatDoor
open Go.ChangeShapes Go.WideShapes Go.ChangeAt Go.RowKit Go.Proofs Go.Joins
set_option maxRecDepth 100000
set_option linter.unusedVariables false
set_option linter.unusedSimpArgs false
theorem Jk6 {W:World} (h:W.ShapedOpen Tryz.prog):MaxOk W :=
 cell_of_shapedOpen_int (zero := #[.int .i64 0]) (t:=3) h (of_decide_eq_true (by kernel_rfl)) (by kernel_rfl) rfl (by kernel_rfl) (by kernel_rfl) Tryz.underlying3
def cLk:Cel (Int × Int):=⟨2,fun a=>[.int .i64 a.1,.int .i64 a.2],fun _ _=>True,fun _=>rfl,fun _ _ _ _ _=>trivial,fun _ _ _ v hv=>by simp at hv; rcases hv with rfl | rfl <;> rfl⟩
def cCl:Cel (Clue × Value):=⟨7,fun a=>Jai a.1 a.2,fun w a=>SlI w a.2 a.1.g,fun _=>rfl,fun _ _ _ h hb=>h.ext hb,fun _ _ h v hv=>Jbr (by obtain ⟨p,cap,e⟩:=SlI.shape h; rw [e]; rfl) v hv⟩
section
variable {H:Type} {enc:TypeId × Value→H} {w:World} {base:Nat} {held:Bool}
theorem Jpt:Rd enc Tryz.prog w base held 45 cLk:=by
 intro fuel cs x h
 obtain ⟨xs,n,_,_,hl,hlen,hf⟩:=DataW.trod_struct Tryz.underlying45 h
 rw [show Tryz.prog.cellsOf 45=2 by kernel_rfl] at hl
 match cs,hl with
 | [c0,c1],_ =>
  match xs,hlen with
  | [y0,y1],_ =>
   have z0:Tryz.prog.cellsOf 3=1:=by kernel_rfl
   have q0:DataW.trod enc Tryz.prog w base (fun _=>true) held n 3 (([c0,c1].drop 0).take (Tryz.prog.cellsOf 3))=[y0,y1][0]?:=hf 0 _ rfl
   rw [z0] at q0
   obtain ⟨a0,e0,r0⟩:=(Jc4 Tryz.underlying3) _ _ _ (show DataW.trod enc Tryz.prog w base (fun _=>true) held n 3 [c0]=some y0 from q0)
   have q1:DataW.trod enc Tryz.prog w base (fun _=>true) held n 3 (([c0,c1].drop 1).take (Tryz.prog.cellsOf 3))=[y0,y1][1]?:=hf 1 _ rfl
   rw [z0] at q1
   obtain ⟨a1,e1,r1⟩:=(Jc4 Tryz.underlying3) _ _ _ (show DataW.trod enc Tryz.prog w base (fun _=>true) held n 3 [c1]=some y1 from q1)
   obtain rfl:c0=_:=(List.cons.inj e0).1
   obtain rfl:c1=_:=(List.cons.inj e1).1
   exact ⟨(a0,a1),rfl,trivial⟩
theorem Jph:Rd enc Tryz.prog w base held 47 cCl:=by
 intro fuel cs x h
 obtain ⟨xs,n,_,_,hl,hlen,hf⟩:=DataW.trod_struct Tryz.underlying47 h
 rw [show Tryz.prog.cellsOf 47=7 by kernel_rfl] at hl
 match cs,hl with
 | [c0,c1,c2,c3,c4,c5,c6],_ =>
  match xs,hlen with
  | [y0,y1,y2,y3,y4,y5,y6],_ =>
   have z0:Tryz.prog.cellsOf 32=1:=by kernel_rfl
   have z1:Tryz.prog.cellsOf 4=1:=by kernel_rfl
   have z2:Tryz.prog.cellsOf 3=1:=by kernel_rfl
   have q0:DataW.trod enc Tryz.prog w base (fun _=>true) held n 3 (([c0,c1,c2,c3,c4,c5,c6].drop 0).take (Tryz.prog.cellsOf 3))=[y0,y1,y2,y3,y4,y5,y6][0]?:=hf 0 _ rfl
   rw [z2] at q0
   obtain ⟨a0,e0,r0⟩:=(Jc4 Tryz.underlying3) _ _ _ (show DataW.trod enc Tryz.prog w base (fun _=>true) held n 3 [c0]=some y0 from q0)
   have q1:DataW.trod enc Tryz.prog w base (fun _=>true) held n 3 (([c0,c1,c2,c3,c4,c5,c6].drop 1).take (Tryz.prog.cellsOf 3))=[y0,y1,y2,y3,y4,y5,y6][1]?:=hf 1 _ rfl
   rw [z2] at q1
   obtain ⟨a1,e1,r1⟩:=(Jc4 Tryz.underlying3) _ _ _ (show DataW.trod enc Tryz.prog w base (fun _=>true) held n 3 [c1]=some y1 from q1)
   have q2:DataW.trod enc Tryz.prog w base (fun _=>true) held n 3 (([c0,c1,c2,c3,c4,c5,c6].drop 2).take (Tryz.prog.cellsOf 3))=[y0,y1,y2,y3,y4,y5,y6][2]?:=hf 2 _ rfl
   rw [z2] at q2
   obtain ⟨a2,e2,r2⟩:=(Jc4 Tryz.underlying3) _ _ _ (show DataW.trod enc Tryz.prog w base (fun _=>true) held n 3 [c2]=some y2 from q2)
   have q3:DataW.trod enc Tryz.prog w base (fun _=>true) held n 3 (([c0,c1,c2,c3,c4,c5,c6].drop 3).take (Tryz.prog.cellsOf 3))=[y0,y1,y2,y3,y4,y5,y6][3]?:=hf 3 _ rfl
   rw [z2] at q3
   obtain ⟨a3,e3,r3⟩:=(Jc4 Tryz.underlying3) _ _ _ (show DataW.trod enc Tryz.prog w base (fun _=>true) held n 3 [c3]=some y3 from q3)
   have q4:DataW.trod enc Tryz.prog w base (fun _=>true) held n 3 (([c0,c1,c2,c3,c4,c5,c6].drop 4).take (Tryz.prog.cellsOf 3))=[y0,y1,y2,y3,y4,y5,y6][4]?:=hf 4 _ rfl
   rw [z2] at q4
   obtain ⟨a4,e4,r4⟩:=(Jc4 Tryz.underlying3) _ _ _ (show DataW.trod enc Tryz.prog w base (fun _=>true) held n 3 [c4]=some y4 from q4)
   have q5:DataW.trod enc Tryz.prog w base (fun _=>true) held n 32 (([c0,c1,c2,c3,c4,c5,c6].drop 5).take (Tryz.prog.cellsOf 32))=[y0,y1,y2,y3,y4,y5,y6][5]?:=hf 5 _ rfl
   rw [z0] at q5
   obtain ⟨a5,e5,r5⟩:=(Jkv Tryz.underlying32 (by kernel_rfl) (by decide) (Jc4 Tryz.underlying3)) _ _ _ (show DataW.trod enc Tryz.prog w base (fun _=>true) held n 32 [c5]=some y5 from q5)
   have q6:DataW.trod enc Tryz.prog w base (fun _=>true) held n 4 (([c0,c1,c2,c3,c4,c5,c6].drop 6).take (Tryz.prog.cellsOf 4))=[y0,y1,y2,y3,y4,y5,y6][6]?:=hf 6 _ rfl
   rw [z1] at q6
   obtain ⟨a6,e6,r6⟩:=(Jnd Tryz.underlying4) _ _ _ (show DataW.trod enc Tryz.prog w base (fun _=>true) held n 4 [c6]=some y6 from q6)
   obtain rfl:c0=_:=(List.cons.inj e0).1
   obtain rfl:c1=_:=(List.cons.inj e1).1
   obtain rfl:c2=_:=(List.cons.inj e2).1
   obtain rfl:c3=_:=(List.cons.inj e3).1
   obtain rfl:c4=_:=(List.cons.inj e4).1
   obtain rfl:c5=_:=(List.cons.inj e5).1
   obtain rfl:c6=_:=(List.cons.inj e6).1
   exact ⟨(⟨a0,a1,a2,a3,a4,a5.l,a6⟩,a5.v),rfl,r5.ints⟩
end
end Go.Proofs.YtdpbapffdmahnaaGreatDoor
