/- Merged texts of this proof (walks and plain laws), printed by a program of the prover. -/
import Derived.Test.YtbboikncaihafaaGreatDoorZs
import Derived.Test.YtbboikncaihafaaGreatDoorZl
set_option maxHeartbeats 8000000
namespace Go.Proofs.YtbboikncaihafaaGreatDoor
open Go.RowKit Go.Proofs
set_option maxRecDepth 100000
set_option linter.unusedVariables false
set_option linter.unusedSimpArgs false
theorem HasZ.pack {w:World} {z:Stt} {Z:SA} {B:List SA} {j:Nat} (hZ:HasZ w Z z) (hj:B[j]? = some Z):HasZ w (Go.Proofs.YtbboikncaihafaaGreatDoor.star B) z:=⟨fun {L} {u} {i} hi hu=>by
 have h1:St w.heap.size w (Go.Proofs.YtbboikncaihafaaGreatDoor.star B::L.eraseIdx i) u:=hu.perm (Jfy hi)
 have hjl:=(List.getElem?_eq_some_iff.1 hj).1
 exact hZ.get (L:=B++L.eraseIdx i) (j:=j) (by rw [List.getElem?_append_left hjl]; exact hj) h1.unpack⟩
theorem Jul {G:Game} {p:Pos} (hc:Jbt G.p=0) (hI:StIn G.rm p.st.x) (hl:p.rd.l.length=G.nts.l.length):posG G.p p.x=0:=by
 rw [Jh6,Jbq hc,Jbq (show Jeo G.rm p.st=0 from Jc4.2 ⟨(Jjd hc).ck,hI⟩),if_pos (by omega)]
theorem Jpi {G:GP} {x:PX} (h:posG G x=0):Jbt G=0:=(Jb2 h).1
theorem Jsi {G:Game} {p:Pos} {m:Move} (hP:GoodP G p):StIn G.rm (Jck G.p p.x m).1∧(Jck G.p p.x m).2.length=G.nts.l.length:=by
 unfold Jck
 split
 ·
  rename_i h
  exact ⟨Jm1 hP h,by unfold Jc9; rw [Jdl]; exact hP.ln⟩
 exact ⟨hP.inn,hP.ln⟩
end Go.Proofs.YtbboikncaihafaaGreatDoor
