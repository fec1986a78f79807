/- Merged texts of this proof (walks and plain laws), printed by a program of the prover. -/
import Derived.Test.YtfbfdnoodccgiaaGreatDoorZo
import Derived.Test.YtfbfdnoodccgiaaGreatDoorZm
import Derived.Test.YtfbfdnoodccgiaaGreatDoorZb
import Derived.Test.YtfbfdnoodccgiaaGreatDoorZg
set_option maxHeartbeats 8000000
namespace Go.Proofs.YtfbfdnoodccgiaaGreatDoor
open Go.RowKit Go.Proofs
set_option maxRecDepth 100000
set_option linter.unusedVariables false
set_option linter.unusedSimpArgs false
theorem Jft {G:Game} {p:Pos} {m:Move} (h:Ja6 G.p p.x m=true):legalB G.rm p.st.x m=true:=by
 unfold Ja6 at h
 rw [Jei] at h
 by_cases hL:legalB G.rm p.x.1 m=true
 ·
  exact hL
 rw [if_neg hL] at h; simp at h
theorem Jqn {G:Game} {p:Pos} {m:Move} (h:Ja6 G.p p.x m=true):(settleV G.rm (moveX G.rm p.st.x m)).isSome=true:=by
 have hL:legalB G.rm p.x.1 m=true:=Jft h
 unfold Ja6 at h
 rw [Jei,if_pos hL,Bool.and_eq_true] at h
 exact h.1
theorem J0c {G:Game} {p:Pos} {m:Move} (hP:GoodP G p) (h:Ja6 G.p p.x m=true):StIn G.rm ((settleV G.rm (moveX G.rm p.st.x m)).getD no3):=by
 have h1:=Jqn h
 cases hs:settleV G.rm (moveX G.rm p.st.x m) with
 | none=>rw [hs] at h1; cases h1
 | some y=>exact Jdx hP.ready (Jku hP.ready hP.inn (Jft h)) hs
theorem Jyz {G:Game} {p:Pos} {m:Move} (h:Ja6 G.p p.x m=true):Jcw G.p p.x m=((settleV G.rm (moveX G.rm p.st.x m)).getD no3,Jb3 G.p ((settleV G.rm (moveX G.rm p.st.x m)).getD no3) p.rd.l):=by
 have hL:legalB G.rm p.x.1 m=true:=Jft h
 unfold Jcw
 rw [Jei,if_pos hL]
 rfl
theorem GoodP.small {G:Game} {p:Pos} (h:GoodP G p):(p.st.ths.l.length≤1000000∧p.st.prs.l.length≤1000000∧p.st.pls.l.length≤1000000)∧p.rd.l.length≤1000000:=by
 have h1:=h.ln
 have h2:=h.nn
 exact ⟨h.inn.small h.ready,by omega⟩
theorem Jwr {G:GP} {x:PX} {m:Move} (h:(Jam G x m).1=0):posG G x=0:=by
 unfold Jam at h
 split at h
 ·
  assumption
 exact h
theorem Ju1 {n:Nat}:(Jc4 n).length=n:=by simp [Jc4]
end Go.Proofs.YtfbfdnoodccgiaaGreatDoor
