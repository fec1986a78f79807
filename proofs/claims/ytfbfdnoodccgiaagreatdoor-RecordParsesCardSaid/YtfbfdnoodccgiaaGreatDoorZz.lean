/- Merged texts of this proof (walks and plain laws), printed by a program of the prover. -/
import Derived.Test.YtfbfdnoodccgiaaGreatDoorZu
import Derived.Test.YtfbfdnoodccgiaaGreatDoorZb
import Derived.Test.YtfbfdnoodccgiaaGreatDoorZv
import Derived.Test.YtfbfdnoodccgiaaGreatDoorZw
set_option maxHeartbeats 8000000
namespace Go.Proofs.YtfbfdnoodccgiaaGreatDoor
open Go.RowKit Go.Proofs
set_option maxRecDepth 100000
set_option linter.unusedVariables false
set_option linter.unusedSimpArgs false
def Jq5 (x:PX):Pos:=⟨⟨⟨.slice none 0 0,x.1.1⟩,⟨.slice none 0 0,x.1.2.1⟩,⟨.slice none 0 0,x.1.2.2⟩⟩,⟨.slice none 0 0,x.2⟩⟩
theorem Jj1 {G:Game} (h:(Jak G.p).1=0):posG G.p (Jak G.p).2=0:=by
 have hbv:BeginV G.p.rm=BeginV G.rm:=(G.p_alike.BeginV).symm
 have hc:Jbn G.p=0:=by
  by_cases hc:Jbn G.p=0
  ·
   exact hc
  unfold Jak at h; rw [if_neg hc] at h; exact h
 have hV:=Jik hc
 by_cases hb:(BeginV G.rm).1=0
 ·
  have e:Jak G.p=(0,(BeginV G.rm).2,Jb2 G.p (BeginV G.rm).2 (List.replicate G.p.nts.length false)):=(if_pos hc).trans (by rw [hbv]; exact if_pos hb)
  rw [e]
  exact Jwc (p:=Jq5 ((BeginV G.rm).2,Jb2 G.p (BeginV G.rm).2 (List.replicate G.p.nts.length false))) hc (Jkm hV.ck hb) (by show (Jb2 G.p _ _).length=_; rw [Jcz,List.length_replicate,Game.p_nlen])
 have e:Jak G.p=((BeginV G.rm).1,noP):=(if_pos hc).trans (by rw [hbv]; exact if_neg hb)
 rw [e] at h
 exact absurd h hb
theorem Jjo {G:Game} {p:Pos} {m:Move} (h:(Jal G.p p.x m).1=0):Ja4 G.p p.x m=true∧(Jal G.p p.x m).2=Jcv G.p p.x m∧posG G.p (Jal G.p p.x m).2=0:=by
 have hq:=Juv h
 have hP:=Jep hq
 have hb:Ja4 G.p p.x m=true:=by
  unfold Jal at h
  rw [if_pos hq] at h
  split at h
  ·
   assumption
  cases h
 have e:Jal G.p p.x m=(0,Jcv G.p p.x m):=(if_pos hq).trans (if_pos hb)
 refine ⟨hb,by rw [e],?_⟩
 rw [e]
 have h2:=Jv3 (m:=m) hP
 rw [Jbc hb] at h2
 exact Jwc (p:=Jq5 (Jcv G.p p.x m)) (Jw0 hq) h2.1 h2.2
end Go.Proofs.YtfbfdnoodccgiaaGreatDoor
