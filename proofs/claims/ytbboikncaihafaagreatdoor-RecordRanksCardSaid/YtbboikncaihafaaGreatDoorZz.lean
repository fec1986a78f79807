/- Merged texts of this proof (walks and plain laws), printed by a program of the prover. -/
import Derived.Test.YtbboikncaihafaaGreatDoorZu
import Derived.Test.YtbboikncaihafaaGreatDoorZb
import Derived.Test.YtbboikncaihafaaGreatDoorZv
import Derived.Test.YtbboikncaihafaaGreatDoorZw
set_option maxHeartbeats 8000000
namespace Go.Proofs.YtbboikncaihafaaGreatDoor
open Go.RowKit Go.Proofs
set_option maxRecDepth 100000
set_option linter.unusedVariables false
set_option linter.unusedSimpArgs false
def Jmh (x:PX):Pos:=⟨⟨⟨.slice none 0 0,x.1.1⟩,⟨.slice none 0 0,x.1.2.1⟩,⟨.slice none 0 0,x.1.2.2⟩⟩,⟨.slice none 0 0,x.2⟩⟩
theorem Je8 {G:Game} (h:(Jag G.p).1=0):posG G.p (Jag G.p).2=0:=by
 have hbv:BeginV G.p.rm=BeginV G.rm:=(G.p_alike.BeginV).symm
 have hc:Jbp G.p=0:=by
  by_cases hc:Jbp G.p=0
  ·
   exact hc
  unfold Jag at h; rw [if_neg hc] at h; exact h
 have hV:=Jkk hc
 by_cases hb:(BeginV G.rm).1=0
 ·
  have e:Jag G.p=(0,(BeginV G.rm).2,Jc4 G.p (BeginV G.rm).2 (List.replicate G.p.nts.length false)):=(if_pos hc).trans (by rw [hbv]; exact if_pos hb)
  rw [e]
  exact J3c (p:=Jmh ((BeginV G.rm).2,Jc4 G.p (BeginV G.rm).2 (List.replicate G.p.nts.length false))) hc (Jkl hV.ck hb) (by show (Jc4 G.p _ _).length=_; rw [Je1,List.length_replicate,Game.p_nlen])
 have e:Jag G.p=((BeginV G.rm).1,noP):=(if_pos hc).trans (by rw [hbv]; exact if_neg hb)
 rw [e] at h
 exact absurd h hb
theorem Jhq {G:Game} {p:Pos} {m:Move} (h:(Jan G.p p.x m).1=0):Ja6 G.p p.x m=true∧(Jan G.p p.x m).2=Jd3 G.p p.x m∧posG G.p (Jan G.p p.x m).2=0:=by
 have hq:=J1m h
 have hP:=Jei hq
 have hb:Ja6 G.p p.x m=true:=by
  unfold Jan at h
  rw [if_pos hq] at h
  split at h
  ·
   assumption
  cases h
 have e:Jan G.p p.x m=(0,Jd3 G.p p.x m):=(if_pos hq).trans (if_pos hb)
 refine ⟨hb,by rw [e],?_⟩
 rw [e]
 have h2:=J2d (m:=m) hP
 rw [Jcc hb] at h2
 exact J3c (p:=Jmh (Jd3 G.p p.x m)) (J4o hq) h2.1 h2.2
end Go.Proofs.YtbboikncaihafaaGreatDoor
