/- Merged texts of this proof (walks and plain laws), printed by a program of the prover. -/
import Derived.Test.YtbboikncaihafaaGreatDoorZv
set_option maxHeartbeats 8000000
namespace Go.Proofs.YtbboikncaihafaaGreatDoor
open Go.RowKit Go.Proofs
set_option maxRecDepth 100000
set_option linter.unusedVariables false
set_option linter.unusedSimpArgs false
theorem Jx8 {a b:Game} (h:a.p=b.p):a.rm.e=b.rm.e∧a.lks.l=b.lks.l∧a.cds.l.map Sl.l=b.cds.l.map Sl.l∧a.nts.l.map NoteD.p=b.nts.l.map NoteD.p∧a.tr=b.tr :=
 ⟨congrArg GP.rm h,congrArg GP.lks h,congrArg GP.cds h,congrArg GP.nts h,congrArg GP.tr h⟩
theorem Jss (p y:Pos) (w:World) (hp:PosOk w p) (hy:PosOk w y) (h:p.x=y.x) :
  Calls Tryz.prog 19 #[.agg #[p.st.ths.v,p.st.prs.v,p.st.pls.v,p.rd.v],.agg #[y.st.ths.v,y.st.prs.v,y.st.pls.v,y.rd.v]] w (RetB w (.bool true)):=by
 have q:=Jpt p y w hp hy
 rwa [decide_eq_true h] at q
end Go.Proofs.YtbboikncaihafaaGreatDoor
