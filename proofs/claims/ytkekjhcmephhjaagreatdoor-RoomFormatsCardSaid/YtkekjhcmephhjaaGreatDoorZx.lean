/- Merged texts of this proof (walks and plain laws), printed by a program of the prover. -/
import Derived.Test.YtkekjhcmephhjaaGreatDoorZb
import Derived.Test.YtkekjhcmephhjaaGreatDoorZe
import Derived.Test.YtkekjhcmephhjaaGreatDoorRows
import Derived.Test.YtkekjhcmephhjaaGreatDoorZg
set_option maxHeartbeats 8000000
namespace Go.Proofs.YtkekjhcmephhjaaGreatDoor
open Go.ChangeShapes Go.WideShapes Go.ChangeAt Go.RowKit Go.Proofs Go.Joins
set_option maxRecDepth 100000
set_option linter.unusedVariables false
set_option linter.unusedSimpArgs false
theorem Jmy {W:World} (h:laidMetH Tryz.prog [("padlock/room.reserved", Rows.laid_padlock_room_reserved)] W):∃ g,GOk W g:=by
 rw [MakeChecks.laidMetH_plain _ _ _ (by kernel_rfl)] at h
 obtain ⟨ps,⟨gg,t,cs,fuel,p,q,hg,ht,hv,hd,_,_⟩,_,_⟩:=h
 obtain rfl:=Option.some.inj ((show Tryz.prog.globalNamed "padlock/room.reserved" = some 1 by kernel_rfl).symm.trans hg)
 obtain rfl:=Option.some.inj ((show (Tryz.prog.globals[1]?).map (·.type)=some 23 by kernel_rfl).symm.trans ht)
 have hc:Tryz.prog.cellsOf 9=1:=by kernel_rfl
 obtain ⟨s,e,_⟩:=((Jbm Tryz.underlying23 (by kernel_rfl) (by decide) (Jjk Tryz.underlying9)):Rd (fun _=>()) Tryz.prog W 0 false 23 (cSl cStr)) _ _ _ hd
 have e1:cs.toList=[s.v]:=e
 rw [e1] at hd
 have hs:=Jld Tryz.underlying23 Tryz.underlying9 hc hd (l:=wordL) (sp:=[]) rfl
 refine ⟨⟨s.v,wordL⟩,rfl,fun u hb=>⟨?_,hs.ext hb⟩⟩
 refine Jfj hb (Nat.le_refl _) ?_
 rw [World.var?_cell hg hv 0]
 have:cs[0]? = cs.toList[0]?:=by simp
 rw [this,e1]; rfl
section
variable {H:Type} {enc:TypeId × Value→H} {w:World} {base:Nat} {held:Bool}
theorem Jl8:Rd enc Tryz.prog w base held 96 cLit:=by
 intro fuel cs x h
 obtain ⟨xs,n,_,_,hl,hlen,hf⟩:=DataW.trod_struct Tryz.underlying96 h
 rw [show Tryz.prog.cellsOf 96=3 by kernel_rfl] at hl
 match cs,hl with
 | [c0,c1,c2],_ =>
  match xs,hlen with
  | [y0,y1,y2],_ =>
   have z0:Tryz.prog.cellsOf 4=1:=by kernel_rfl
   have z1:Tryz.prog.cellsOf 3=1:=by kernel_rfl
   have q0:DataW.trod enc Tryz.prog w base (fun _=>true) held n 3 (([c0,c1,c2].drop 0).take (Tryz.prog.cellsOf 3))=[y0,y1,y2][0]?:=hf 0 _ rfl
   rw [z1] at q0
   obtain ⟨a0,e0,r0⟩:=(Jdh Tryz.underlying3) _ _ _ (show DataW.trod enc Tryz.prog w base (fun _=>true) held n 3 [c0]=some y0 from q0)
   have q1:DataW.trod enc Tryz.prog w base (fun _=>true) held n 3 (([c0,c1,c2].drop 1).take (Tryz.prog.cellsOf 3))=[y0,y1,y2][1]?:=hf 1 _ rfl
   rw [z1] at q1
   obtain ⟨a1,e1,r1⟩:=(Jdh Tryz.underlying3) _ _ _ (show DataW.trod enc Tryz.prog w base (fun _=>true) held n 3 [c1]=some y1 from q1)
   have q2:DataW.trod enc Tryz.prog w base (fun _=>true) held n 4 (([c0,c1,c2].drop 2).take (Tryz.prog.cellsOf 4))=[y0,y1,y2][2]?:=hf 2 _ rfl
   rw [z0] at q2
   obtain ⟨a2,e2,r2⟩:=(Jys Tryz.underlying4) _ _ _ (show DataW.trod enc Tryz.prog w base (fun _=>true) held n 4 [c2]=some y2 from q2)
   obtain rfl:c0=_:=(List.cons.inj e0).1
   obtain rfl:c1=_:=(List.cons.inj e1).1
   obtain rfl:c2=_:=(List.cons.inj e2).1
   exact ⟨⟨a0,a1,a2⟩,rfl,trivial⟩
theorem Jym:Rd enc Tryz.prog w base held 75 cPut:=by
 intro fuel cs x h
 obtain ⟨xs,n,_,_,hl,hlen,hf⟩:=DataW.trod_struct Tryz.underlying75 h
 rw [show Tryz.prog.cellsOf 75=2 by kernel_rfl] at hl
 match cs,hl with
 | [c0,c1],_ =>
  match xs,hlen with
  | [y0,y1],_ =>
   have z0:Tryz.prog.cellsOf 3=1:=by kernel_rfl
   have q0:DataW.trod enc Tryz.prog w base (fun _=>true) held n 3 (([c0,c1].drop 0).take (Tryz.prog.cellsOf 3))=[y0,y1][0]?:=hf 0 _ rfl
   rw [z0] at q0
   obtain ⟨a0,e0,r0⟩:=(Jdh Tryz.underlying3) _ _ _ (show DataW.trod enc Tryz.prog w base (fun _=>true) held n 3 [c0]=some y0 from q0)
   have q1:DataW.trod enc Tryz.prog w base (fun _=>true) held n 3 (([c0,c1].drop 1).take (Tryz.prog.cellsOf 3))=[y0,y1][1]?:=hf 1 _ rfl
   rw [z0] at q1
   obtain ⟨a1,e1,r1⟩:=(Jdh Tryz.underlying3) _ _ _ (show DataW.trod enc Tryz.prog w base (fun _=>true) held n 3 [c1]=some y1 from q1)
   obtain rfl:c0=_:=(List.cons.inj e0).1
   obtain rfl:c1=_:=(List.cons.inj e1).1
   exact ⟨⟨a0,a1⟩,rfl,trivial⟩
theorem Jv7:Rd enc Tryz.prog w base held 65 cThing:=by
 intro fuel cs x h
 obtain ⟨xs,n,_,_,hl,hlen,hf⟩:=DataW.trod_struct Tryz.underlying65 h
 rw [show Tryz.prog.cellsOf 65=4 by kernel_rfl] at hl
 match cs,hl with
 | [c0,c1,c2,c3],_ =>
  match xs,hlen with
  | [y0,y1,y2,y3],_ =>
   have z0:Tryz.prog.cellsOf 3=1:=by kernel_rfl
   have z1:Tryz.prog.cellsOf 9=1:=by kernel_rfl
   have q0:DataW.trod enc Tryz.prog w base (fun _=>true) held n 9 (([c0,c1,c2,c3].drop 0).take (Tryz.prog.cellsOf 9))=[y0,y1,y2,y3][0]?:=hf 0 _ rfl
   rw [z1] at q0
   obtain ⟨a0,e0,r0⟩:=(Jjk Tryz.underlying9) _ _ _ (show DataW.trod enc Tryz.prog w base (fun _=>true) held n 9 [c0]=some y0 from q0)
   have q1:DataW.trod enc Tryz.prog w base (fun _=>true) held n 3 (([c0,c1,c2,c3].drop 1).take (Tryz.prog.cellsOf 3))=[y0,y1,y2,y3][1]?:=hf 1 _ rfl
   rw [z0] at q1
   obtain ⟨a1,e1,r1⟩:=(Jdh Tryz.underlying3) _ _ _ (show DataW.trod enc Tryz.prog w base (fun _=>true) held n 3 [c1]=some y1 from q1)
   have q2:DataW.trod enc Tryz.prog w base (fun _=>true) held n 3 (([c0,c1,c2,c3].drop 2).take (Tryz.prog.cellsOf 3))=[y0,y1,y2,y3][2]?:=hf 2 _ rfl
   rw [z0] at q2
   obtain ⟨a2,e2,r2⟩:=(Jdh Tryz.underlying3) _ _ _ (show DataW.trod enc Tryz.prog w base (fun _=>true) held n 3 [c2]=some y2 from q2)
   have q3:DataW.trod enc Tryz.prog w base (fun _=>true) held n 3 (([c0,c1,c2,c3].drop 3).take (Tryz.prog.cellsOf 3))=[y0,y1,y2,y3][3]?:=hf 3 _ rfl
   rw [z0] at q3
   obtain ⟨a3,e3,r3⟩:=(Jdh Tryz.underlying3) _ _ _ (show DataW.trod enc Tryz.prog w base (fun _=>true) held n 3 [c3]=some y3 from q3)
   obtain rfl:c0=_:=(List.cons.inj e0).1
   obtain rfl:c1=_:=(List.cons.inj e1).1
   obtain rfl:c2=_:=(List.cons.inj e2).1
   obtain rfl:c3=_:=(List.cons.inj e3).1
   exact ⟨⟨a0,a1,a2,a3⟩,rfl,trivial⟩
theorem J3g:Rd enc Tryz.prog w base held 67 cPro:=by
 intro fuel cs x h
 obtain ⟨xs,n,_,_,hl,hlen,hf⟩:=DataW.trod_struct Tryz.underlying67 h
 rw [show Tryz.prog.cellsOf 67=3 by kernel_rfl] at hl
 match cs,hl with
 | [c0,c1,c2],_ =>
  match xs,hlen with
  | [y0,y1,y2],_ =>
   have z0:Tryz.prog.cellsOf 30=1:=by kernel_rfl
   have z1:Tryz.prog.cellsOf 3=1:=by kernel_rfl
   have z2:Tryz.prog.cellsOf 9=1:=by kernel_rfl
   have q0:DataW.trod enc Tryz.prog w base (fun _=>true) held n 9 (([c0,c1,c2].drop 0).take (Tryz.prog.cellsOf 9))=[y0,y1,y2][0]?:=hf 0 _ rfl
   rw [z2] at q0
   obtain ⟨a0,e0,r0⟩:=(Jjk Tryz.underlying9) _ _ _ (show DataW.trod enc Tryz.prog w base (fun _=>true) held n 9 [c0]=some y0 from q0)
   have q1:DataW.trod enc Tryz.prog w base (fun _=>true) held n 3 (([c0,c1,c2].drop 1).take (Tryz.prog.cellsOf 3))=[y0,y1,y2][1]?:=hf 1 _ rfl
   rw [z1] at q1
   obtain ⟨a1,e1,r1⟩:=(Jdh Tryz.underlying3) _ _ _ (show DataW.trod enc Tryz.prog w base (fun _=>true) held n 3 [c1]=some y1 from q1)
   have q2:DataW.trod enc Tryz.prog w base (fun _=>true) held n 30 (([c0,c1,c2].drop 2).take (Tryz.prog.cellsOf 30))=[y0,y1,y2][2]?:=hf 2 _ rfl
   rw [z0] at q2
   obtain ⟨a2,e2,r2⟩:=(Jbm Tryz.underlying30 (by kernel_rfl) (by decide) Jl8) _ _ _ (show DataW.trod enc Tryz.prog w base (fun _=>true) held n 30 [c2]=some y2 from q2)
   obtain rfl:c0=_:=(List.cons.inj e0).1
   obtain rfl:c1=_:=(List.cons.inj e1).1
   obtain rfl:c2=_:=(List.cons.inj e2).1
   exact ⟨⟨a0,a1,a2⟩,rfl,r2⟩
theorem J2r:Rd enc Tryz.prog w base held 69 cWay:=by
 intro fuel cs x h
 obtain ⟨xs,n,_,_,hl,hlen,hf⟩:=DataW.trod_struct Tryz.underlying69 h
 rw [show Tryz.prog.cellsOf 69=3 by kernel_rfl] at hl
 match cs,hl with
 | [c0,c1,c2],_ =>
  match xs,hlen with
  | [y0,y1,y2],_ =>
   have z0:Tryz.prog.cellsOf 30=1:=by kernel_rfl
   have z1:Tryz.prog.cellsOf 3=1:=by kernel_rfl
   have q0:DataW.trod enc Tryz.prog w base (fun _=>true) held n 3 (([c0,c1,c2].drop 0).take (Tryz.prog.cellsOf 3))=[y0,y1,y2][0]?:=hf 0 _ rfl
   rw [z1] at q0
   obtain ⟨a0,e0,r0⟩:=(Jdh Tryz.underlying3) _ _ _ (show DataW.trod enc Tryz.prog w base (fun _=>true) held n 3 [c0]=some y0 from q0)
   have q1:DataW.trod enc Tryz.prog w base (fun _=>true) held n 3 (([c0,c1,c2].drop 1).take (Tryz.prog.cellsOf 3))=[y0,y1,y2][1]?:=hf 1 _ rfl
   rw [z1] at q1
   obtain ⟨a1,e1,r1⟩:=(Jdh Tryz.underlying3) _ _ _ (show DataW.trod enc Tryz.prog w base (fun _=>true) held n 3 [c1]=some y1 from q1)
   have q2:DataW.trod enc Tryz.prog w base (fun _=>true) held n 30 (([c0,c1,c2].drop 2).take (Tryz.prog.cellsOf 30))=[y0,y1,y2][2]?:=hf 2 _ rfl
   rw [z0] at q2
   obtain ⟨a2,e2,r2⟩:=(Jbm Tryz.underlying30 (by kernel_rfl) (by decide) Jl8) _ _ _ (show DataW.trod enc Tryz.prog w base (fun _=>true) held n 30 [c2]=some y2 from q2)
   obtain rfl:c0=_:=(List.cons.inj e0).1
   obtain rfl:c1=_:=(List.cons.inj e1).1
   obtain rfl:c2=_:=(List.cons.inj e2).1
   exact ⟨⟨a0,a1,a2⟩,rfl,r2⟩
theorem J3e:Rd enc Tryz.prog w base held 73 cAct:=by
 intro fuel cs x h
 obtain ⟨xs,n,_,_,hl,hlen,hf⟩:=DataW.trod_struct Tryz.underlying73 h
 rw [show Tryz.prog.cellsOf 73=8 by kernel_rfl] at hl
 match cs,hl with
 | [c0,c1,c2,c3,c4,c5,c6,c7],_ =>
  match xs,hlen with
  | [y0,y1,y2,y3,y4,y5,y6,y7],_ =>
   have z0:Tryz.prog.cellsOf 71=1:=by kernel_rfl
   have z1:Tryz.prog.cellsOf 43=1:=by kernel_rfl
   have z2:Tryz.prog.cellsOf 30=1:=by kernel_rfl
   have z3:Tryz.prog.cellsOf 3=1:=by kernel_rfl
   have z4:Tryz.prog.cellsOf 9=1:=by kernel_rfl
   have q0:DataW.trod enc Tryz.prog w base (fun _=>true) held n 9 (([c0,c1,c2,c3,c4,c5,c6,c7].drop 0).take (Tryz.prog.cellsOf 9))=[y0,y1,y2,y3,y4,y5,y6,y7][0]?:=hf 0 _ rfl
   rw [z4] at q0
   obtain ⟨a0,e0,r0⟩:=(Jjk Tryz.underlying9) _ _ _ (show DataW.trod enc Tryz.prog w base (fun _=>true) held n 9 [c0]=some y0 from q0)
   have q1:DataW.trod enc Tryz.prog w base (fun _=>true) held n 3 (([c0,c1,c2,c3,c4,c5,c6,c7].drop 1).take (Tryz.prog.cellsOf 3))=[y0,y1,y2,y3,y4,y5,y6,y7][1]?:=hf 1 _ rfl
   rw [z3] at q1
   obtain ⟨a1,e1,r1⟩:=(Jdh Tryz.underlying3) _ _ _ (show DataW.trod enc Tryz.prog w base (fun _=>true) held n 3 [c1]=some y1 from q1)
   have q2:DataW.trod enc Tryz.prog w base (fun _=>true) held n 3 (([c0,c1,c2,c3,c4,c5,c6,c7].drop 2).take (Tryz.prog.cellsOf 3))=[y0,y1,y2,y3,y4,y5,y6,y7][2]?:=hf 2 _ rfl
   rw [z3] at q2
   obtain ⟨a2,e2,r2⟩:=(Jdh Tryz.underlying3) _ _ _ (show DataW.trod enc Tryz.prog w base (fun _=>true) held n 3 [c2]=some y2 from q2)
   have q3:DataW.trod enc Tryz.prog w base (fun _=>true) held n 43 (([c0,c1,c2,c3,c4,c5,c6,c7].drop 3).take (Tryz.prog.cellsOf 43))=[y0,y1,y2,y3,y4,y5,y6,y7][3]?:=hf 3 _ rfl
   rw [z1] at q3
   obtain ⟨a3,e3,r3⟩:=(Jbm Tryz.underlying43 (by kernel_rfl) (by decide) (Jdh Tryz.underlying3)) _ _ _ (show DataW.trod enc Tryz.prog w base (fun _=>true) held n 43 [c3]=some y3 from q3)
   have q4:DataW.trod enc Tryz.prog w base (fun _=>true) held n 30 (([c0,c1,c2,c3,c4,c5,c6,c7].drop 4).take (Tryz.prog.cellsOf 30))=[y0,y1,y2,y3,y4,y5,y6,y7][4]?:=hf 4 _ rfl
   rw [z2] at q4
   obtain ⟨a4,e4,r4⟩:=(Jbm Tryz.underlying30 (by kernel_rfl) (by decide) Jl8) _ _ _ (show DataW.trod enc Tryz.prog w base (fun _=>true) held n 30 [c4]=some y4 from q4)
   have q5:DataW.trod enc Tryz.prog w base (fun _=>true) held n 71 (([c0,c1,c2,c3,c4,c5,c6,c7].drop 5).take (Tryz.prog.cellsOf 71))=[y0,y1,y2,y3,y4,y5,y6,y7][5]?:=hf 5 _ rfl
   rw [z0] at q5
   obtain ⟨a5,e5,r5⟩:=(Jbm Tryz.underlying71 (by kernel_rfl) (by decide) Jym) _ _ _ (show DataW.trod enc Tryz.prog w base (fun _=>true) held n 71 [c5]=some y5 from q5)
   have q6:DataW.trod enc Tryz.prog w base (fun _=>true) held n 43 (([c0,c1,c2,c3,c4,c5,c6,c7].drop 6).take (Tryz.prog.cellsOf 43))=[y0,y1,y2,y3,y4,y5,y6,y7][6]?:=hf 6 _ rfl
   rw [z1] at q6
   obtain ⟨a6,e6,r6⟩:=(Jbm Tryz.underlying43 (by kernel_rfl) (by decide) (Jdh Tryz.underlying3)) _ _ _ (show DataW.trod enc Tryz.prog w base (fun _=>true) held n 43 [c6]=some y6 from q6)
   have q7:DataW.trod enc Tryz.prog w base (fun _=>true) held n 43 (([c0,c1,c2,c3,c4,c5,c6,c7].drop 7).take (Tryz.prog.cellsOf 43))=[y0,y1,y2,y3,y4,y5,y6,y7][7]?:=hf 7 _ rfl
   rw [z1] at q7
   obtain ⟨a7,e7,r7⟩:=(Jbm Tryz.underlying43 (by kernel_rfl) (by decide) (Jdh Tryz.underlying3)) _ _ _ (show DataW.trod enc Tryz.prog w base (fun _=>true) held n 43 [c7]=some y7 from q7)
   obtain rfl:c0=_:=(List.cons.inj e0).1
   obtain rfl:c1=_:=(List.cons.inj e1).1
   obtain rfl:c2=_:=(List.cons.inj e2).1
   obtain rfl:c3=_:=(List.cons.inj e3).1
   obtain rfl:c4=_:=(List.cons.inj e4).1
   obtain rfl:c5=_:=(List.cons.inj e5).1
   obtain rfl:c6=_:=(List.cons.inj e6).1
   obtain rfl:c7=_:=(List.cons.inj e7).1
   exact ⟨⟨a0,a1,a2,a3,a4,a5,a6,a7⟩,rfl,⟨r3,r4,r5,r6,r7⟩⟩
theorem J0d:Rd enc Tryz.prog w base held 77 cAuto:=by
 intro fuel cs x h
 obtain ⟨xs,n,_,_,hl,hlen,hf⟩:=DataW.trod_struct Tryz.underlying77 h
 rw [show Tryz.prog.cellsOf 77=3 by kernel_rfl] at hl
 match cs,hl with
 | [c0,c1,c2],_ =>
  match xs,hlen with
  | [y0,y1],_ =>
   have z0:Tryz.prog.cellsOf 30=1:=by kernel_rfl
   have z1:Tryz.prog.cellsOf 75=2:=by kernel_rfl
   have q0:DataW.trod enc Tryz.prog w base (fun _=>true) held n 30 (([c0,c1,c2].drop 0).take (Tryz.prog.cellsOf 30))=[y0,y1][0]?:=hf 0 _ rfl
   rw [z0] at q0
   obtain ⟨a0,e0,r0⟩:=(Jbm Tryz.underlying30 (by kernel_rfl) (by decide) Jl8) _ _ _ (show DataW.trod enc Tryz.prog w base (fun _=>true) held n 30 [c0]=some y0 from q0)
   have q1:DataW.trod enc Tryz.prog w base (fun _=>true) held n 75 (([c0,c1,c2].drop 1).take (Tryz.prog.cellsOf 75))=[y0,y1][1]?:=hf 1 _ rfl
   rw [z1] at q1
   obtain ⟨a1,e1,r1⟩:=Jym _ _ _ (show DataW.trod enc Tryz.prog w base (fun _=>true) held n 75 [c1,c2]=some y1 from q1)
   obtain rfl:c0=_:=(List.cons.inj e0).1
   obtain rfl:c1=_:=(List.cons.inj e1).1
   obtain rfl:c2=_:=(List.cons.inj (List.cons.inj e1).2).1
   exact ⟨⟨a0,a1.t,a1.s⟩,rfl,r0⟩
theorem Jtz {fuel:Nat} {cs:List Value} {x:DataW H × List MemPlace} (h:DataW.trod enc Tryz.prog w base (fun _=>true) held fuel 32 cs=some x):∃ r:Room,cs=r.cells∧RoomOk w r:=by
 obtain ⟨xs,n,_,_,hl,hlen,hf⟩:=DataW.trod_struct Tryz.underlying32 h
 rw [show Tryz.prog.cellsOf 32=8 by kernel_rfl] at hl
 match cs,hl with
 | [c0,c1,c2,c3,c4,c5,c6,c7],_ =>
  match xs,hlen with
  | [y0,y1,y2,y3,y4,y5,y6,y7],_ =>
   have z0:Tryz.prog.cellsOf 27=1:=by kernel_rfl
   have z1:Tryz.prog.cellsOf 28=1:=by kernel_rfl
   have z2:Tryz.prog.cellsOf 25=1:=by kernel_rfl
   have z3:Tryz.prog.cellsOf 24=1:=by kernel_rfl
   have z4:Tryz.prog.cellsOf 26=1:=by kernel_rfl
   have z5:Tryz.prog.cellsOf 23=1:=by kernel_rfl
   have z6:Tryz.prog.cellsOf 30=1:=by kernel_rfl
   have z7:Tryz.prog.cellsOf 3=1:=by kernel_rfl
   have q0:DataW.trod enc Tryz.prog w base (fun _=>true) held n 23 (([c0,c1,c2,c3,c4,c5,c6,c7].drop 0).take (Tryz.prog.cellsOf 23))=[y0,y1,y2,y3,y4,y5,y6,y7][0]?:=hf 0 _ rfl
   rw [z5] at q0
   obtain ⟨a0,e0,r0⟩:=(Jbm Tryz.underlying23 (by kernel_rfl) (by decide) (Jjk Tryz.underlying9)) _ _ _ (show DataW.trod enc Tryz.prog w base (fun _=>true) held n 23 [c0]=some y0 from q0)
   have q1:DataW.trod enc Tryz.prog w base (fun _=>true) held n 24 (([c0,c1,c2,c3,c4,c5,c6,c7].drop 1).take (Tryz.prog.cellsOf 24))=[y0,y1,y2,y3,y4,y5,y6,y7][1]?:=hf 1 _ rfl
   rw [z3] at q1
   obtain ⟨a1,e1,r1⟩:=(Jbm Tryz.underlying24 (by kernel_rfl) (by decide) Jv7) _ _ _ (show DataW.trod enc Tryz.prog w base (fun _=>true) held n 24 [c1]=some y1 from q1)
   have q2:DataW.trod enc Tryz.prog w base (fun _=>true) held n 25 (([c0,c1,c2,c3,c4,c5,c6,c7].drop 2).take (Tryz.prog.cellsOf 25))=[y0,y1,y2,y3,y4,y5,y6,y7][2]?:=hf 2 _ rfl
   rw [z2] at q2
   obtain ⟨a2,e2,r2⟩:=(Jbm Tryz.underlying25 (by kernel_rfl) (by decide) J3g) _ _ _ (show DataW.trod enc Tryz.prog w base (fun _=>true) held n 25 [c2]=some y2 from q2)
   have q3:DataW.trod enc Tryz.prog w base (fun _=>true) held n 26 (([c0,c1,c2,c3,c4,c5,c6,c7].drop 3).take (Tryz.prog.cellsOf 26))=[y0,y1,y2,y3,y4,y5,y6,y7][3]?:=hf 3 _ rfl
   rw [z4] at q3
   obtain ⟨a3,e3,r3⟩:=(Jbm Tryz.underlying26 (by kernel_rfl) (by decide) J2r) _ _ _ (show DataW.trod enc Tryz.prog w base (fun _=>true) held n 26 [c3]=some y3 from q3)
   have q4:DataW.trod enc Tryz.prog w base (fun _=>true) held n 27 (([c0,c1,c2,c3,c4,c5,c6,c7].drop 4).take (Tryz.prog.cellsOf 27))=[y0,y1,y2,y3,y4,y5,y6,y7][4]?:=hf 4 _ rfl
   rw [z0] at q4
   obtain ⟨a4,e4,r4⟩:=(Jbm Tryz.underlying27 (by kernel_rfl) (by decide) J3e) _ _ _ (show DataW.trod enc Tryz.prog w base (fun _=>true) held n 27 [c4]=some y4 from q4)
   have q5:DataW.trod enc Tryz.prog w base (fun _=>true) held n 28 (([c0,c1,c2,c3,c4,c5,c6,c7].drop 5).take (Tryz.prog.cellsOf 28))=[y0,y1,y2,y3,y4,y5,y6,y7][5]?:=hf 5 _ rfl
   rw [z1] at q5
   obtain ⟨a5,e5,r5⟩:=(Jbm Tryz.underlying28 (by kernel_rfl) (by decide) J0d) _ _ _ (show DataW.trod enc Tryz.prog w base (fun _=>true) held n 28 [c5]=some y5 from q5)
   have q6:DataW.trod enc Tryz.prog w base (fun _=>true) held n 3 (([c0,c1,c2,c3,c4,c5,c6,c7].drop 6).take (Tryz.prog.cellsOf 3))=[y0,y1,y2,y3,y4,y5,y6,y7][6]?:=hf 6 _ rfl
   rw [z7] at q6
   obtain ⟨a6,e6,r6⟩:=(Jdh Tryz.underlying3) _ _ _ (show DataW.trod enc Tryz.prog w base (fun _=>true) held n 3 [c6]=some y6 from q6)
   have q7:DataW.trod enc Tryz.prog w base (fun _=>true) held n 30 (([c0,c1,c2,c3,c4,c5,c6,c7].drop 7).take (Tryz.prog.cellsOf 30))=[y0,y1,y2,y3,y4,y5,y6,y7][7]?:=hf 7 _ rfl
   rw [z6] at q7
   obtain ⟨a7,e7,r7⟩:=(Jbm Tryz.underlying30 (by kernel_rfl) (by decide) Jl8) _ _ _ (show DataW.trod enc Tryz.prog w base (fun _=>true) held n 30 [c7]=some y7 from q7)
   obtain rfl:c0=_:=(List.cons.inj e0).1
   obtain rfl:c1=_:=(List.cons.inj e1).1
   obtain rfl:c2=_:=(List.cons.inj e2).1
   obtain rfl:c3=_:=(List.cons.inj e3).1
   obtain rfl:c4=_:=(List.cons.inj e4).1
   obtain rfl:c5=_:=(List.cons.inj e5).1
   obtain rfl:c6=_:=(List.cons.inj e6).1
   obtain rfl:c7=_:=(List.cons.inj e7).1
   exact ⟨⟨a0,a1,a2,a3,a4,a5,a6,a7⟩,rfl,⟨r0,r1,r2,r3,r4,r5,r7⟩⟩
end
theorem Jwc {W:World} (h:W.ShapedOpen Tryz.prog):MaxOk W :=
 cell_of_shapedOpen_int (zero := #[.int .i64 0]) (t:=3) h (of_decide_eq_true (by kernel_rfl)) (by kernel_rfl) rfl (by kernel_rfl) (by kernel_rfl) Tryz.underlying3
end Go.Proofs.YtkekjhcmephhjaaGreatDoor
