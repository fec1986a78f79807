/- Merged texts of this proof (walks and plain laws), printed by a program of the prover. -/
import Derived.Test.YtfbfdnoodccgiaaGreatDoorZs
import Derived.Test.YtfbfdnoodccgiaaGreatDoorZl
set_option maxHeartbeats 8000000
namespace Go.Proofs.YtfbfdnoodccgiaaGreatDoor
open Go.RowKit Go.Proofs
set_option maxRecDepth 100000
set_option linter.unusedVariables false
set_option linter.unusedSimpArgs false
theorem HasZ.pack {w:World} {z:Stt} {Z:SA} {B:List SA} {j:Nat} (hZ:HasZ w Z z) (hj:B[j]? = some Z):HasZ w (Go.Proofs.YtfbfdnoodccgiaaGreatDoor.star B) z:=⟨fun {L} {u} {i} hi hu=>by
 have h1:St w.heap.size w (Go.Proofs.YtfbfdnoodccgiaaGreatDoor.star B::L.eraseIdx i) u:=hu.perm (Je9 hi)
 have hjl:=(List.getElem?_eq_some_iff.1 hj).1
 exact hZ.get (L:=B++L.eraseIdx i) (j:=j) (by rw [List.getElem?_append_left hjl]; exact hj) h1.unpack⟩
theorem Jwc {G:Game} {p:Pos} (hc:Jbn G.p=0) (hI:StIn G.rm p.st.x) (hl:p.rd.l.length=G.nts.l.length):posG G.p p.x=0:=by
 rw [Jh3,Jb4 hc,Jb4 (show Je1 G.rm p.st=0 from Jdw.2 ⟨(Jik hc).ck,hI⟩),if_pos (by omega)]
theorem Jw0 {G:GP} {x:PX} (h:posG G x=0):Jbn G=0:=(Jbs h).1
theorem Jv3 {G:Game} {p:Pos} {m:Move} (hP:GoodP G p):StIn G.rm (Jb5 G.p p.x m).1∧(Jb5 G.p p.x m).2.length=G.nts.l.length:=by
 unfold Jb5
 split
 ·
  rename_i h
  exact ⟨Jmk hP h,by unfold Jcv; rw [Jcz]; exact hP.ln⟩
 exact ⟨hP.inn,hP.ln⟩
end Go.Proofs.YtfbfdnoodccgiaaGreatDoor
