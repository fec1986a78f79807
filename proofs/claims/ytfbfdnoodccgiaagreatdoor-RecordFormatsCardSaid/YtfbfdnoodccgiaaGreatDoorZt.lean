/- Merged texts of this proof (walks and plain laws), printed by a program of the prover. -/
import Derived.Test.YtfbfdnoodccgiaaGreatDoorZs
import Derived.Test.YtfbfdnoodccgiaaGreatDoorZl
set_option maxHeartbeats 8000000
namespace Go.Proofs.YtfbfdnoodccgiaaGreatDoor
open Go.RowKit Go.Proofs
set_option maxRecDepth 100000
set_option linter.unusedVariables false
set_option linter.unusedSimpArgs false
theorem HasZ.pack {w:World} {z:Stt} {Z:SA} {B:List SA} {j:Nat} (hZ:HasZ w Z z) (hj:B[j]? = some Z):HasZ w (Go.Proofs.YtfbfdnoodccgiaaGreatDoor.star B) z:=⟨fun {L} {u} {i} hi hu=>by
 have h1:St w.heap.size w (Go.Proofs.YtfbfdnoodccgiaaGreatDoor.star B::L.eraseIdx i) u:=hu.perm (Jfw hi)
 have hjl:=(List.getElem?_eq_some_iff.1 hj).1
 exact hZ.get (L:=B++L.eraseIdx i) (j:=j) (by rw [List.getElem?_append_left hjl]; exact hj) h1.unpack⟩
theorem Jyi {G:Game} {p:Pos} (hc:Jbl G.p=0) (hI:StIn G.rm p.st.x) (hl:p.rd.l.length=G.nts.l.length):posG G.p p.x=0:=by
 rw [Jh4,Jb4 hc,Jb4 (show Jer G.rm p.st=0 from Jd0.2 ⟨(Jji hc).ck,hI⟩),if_pos (by omega)]
theorem J0g {G:GP} {x:PX} (h:posG G x=0):Jbl G=0:=(Jbt h).1
theorem Jv6 {G:Game} {p:Pos} {m:Move} (hP:GoodP G p):StIn G.rm (Jb7 G.p p.x m).1∧(Jb7 G.p p.x m).2.length=G.nts.l.length:=by
 unfold Jb7
 split
 ·
  rename_i h
  exact ⟨Jm4 hP h,by unfold Jcw; rw [Jc7]; exact hP.ln⟩
 exact ⟨hP.inn,hP.ln⟩
end Go.Proofs.YtfbfdnoodccgiaaGreatDoor
