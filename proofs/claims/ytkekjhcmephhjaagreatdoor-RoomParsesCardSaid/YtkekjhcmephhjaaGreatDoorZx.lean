/- Merged texts of this proof (walks and plain laws), printed by a program of the prover. -/
import Derived.Test.YtkekjhcmephhjaaGreatDoorZb
import Derived.Test.YtkekjhcmephhjaaGreatDoorZe
import Derived.Test.YtkekjhcmephhjaaGreatDoorRows
import Derived.Test.YtkekjhcmephhjaaGreatDoorZg
set_option maxHeartbeats 8000000
namespace Go.Proofs.YtkekjhcmephhjaaGreatDoor
open Go.ChangeShapes Go.WideShapes Go.ChangeAt Go.RowKit Go.Proofs Go.Joins
set_option maxRecDepth 100000
set_option linter.unusedVariables false
set_option linter.unusedSimpArgs false
theorem Jkn {W:World} (h:laidMetH Tryz.prog [("padlock/room.reserved", Rows.laid_padlock_room_reserved)] W):∃ g,GOk W g:=by
 rw [MakeChecks.laidMetH_plain _ _ _ (by kernel_rfl)] at h
 obtain ⟨ps,⟨gg,t,cs,fuel,p,q,hg,ht,hv,hd,_,_⟩,_,_⟩:=h
 obtain rfl:=Option.some.inj ((show Tryz.prog.globalNamed "padlock/room.reserved" = some 1 by kernel_rfl).symm.trans hg)
 obtain rfl:=Option.some.inj ((show (Tryz.prog.globals[1]?).map (·.type)=some 23 by kernel_rfl).symm.trans ht)
 have hc:Tryz.prog.cellsOf 9=1:=by kernel_rfl
 obtain ⟨s,e,_⟩:=((Jlo Tryz.underlying23 (by kernel_rfl) (by decide) (Jtx Tryz.underlying9)):Rd (fun _=>()) Tryz.prog W 0 false 23 (cSl cStr)) _ _ _ hd
 have e1:cs.toList=[s.v]:=e
 rw [e1] at hd
 have hs:=Jir Tryz.underlying23 Tryz.underlying9 hc hd (l:=wordL) (sp:=[]) rfl
 refine ⟨⟨s.v,wordL⟩,rfl,fun u hb=>⟨?_,hs.ext hb⟩⟩
 refine Jdj hb (Nat.le_refl _) ?_
 rw [World.var?_cell hg hv 0]
 have:cs[0]? = cs.toList[0]?:=by simp
 rw [this,e1]; rfl
theorem Jsy {W:World} (h:W.ShapedOpen Tryz.prog):MaxOk W :=
 cell_of_shapedOpen_int (zero := #[.int .i64 0]) (t:=3) h (of_decide_eq_true (by kernel_rfl)) (by kernel_rfl) rfl (by kernel_rfl) (by kernel_rfl) Tryz.underlying3
end Go.Proofs.YtkekjhcmephhjaaGreatDoor
