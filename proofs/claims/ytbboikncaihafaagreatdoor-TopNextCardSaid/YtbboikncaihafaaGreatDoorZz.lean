/- Merged texts of this proof (walks and plain laws), printed by a program of the prover. -/
import Derived.Test.YtbboikncaihafaaGreatDoorZu
import Derived.Test.YtbboikncaihafaaGreatDoorZb
import Derived.Test.YtbboikncaihafaaGreatDoorZv
import Derived.Test.YtbboikncaihafaaGreatDoorZw
set_option maxHeartbeats 8000000
namespace Go.Proofs.YtbboikncaihafaaGreatDoor
open Go.RowKit Go.Proofs
set_option maxRecDepth 100000
set_option linter.unusedVariables false
set_option linter.unusedSimpArgs false
def Jvu (x:PX):Pos:=⟨⟨⟨.slice none 0 0,x.1.1⟩,⟨.slice none 0 0,x.1.2.1⟩,⟨.slice none 0 0,x.1.2.2⟩⟩,⟨.slice none 0 0,x.2⟩⟩
theorem Jqb {G:Game} (h:(Jcb G.p).1=0):posG G.p (Jcb G.p).2=0:=by
 have hbv:BeginV G.p.rm=BeginV G.rm:=(G.p_alike.BeginV).symm
 have hc:Jbt G.p=0:=by
  by_cases hc:Jbt G.p=0
  ·
   exact hc
  unfold Jcb at h; rw [if_neg hc] at h; exact h
 have hV:=Jjd hc
 by_cases hb:(BeginV G.rm).1=0
 ·
  have e:Jcb G.p=(0,(BeginV G.rm).2,Jcf G.p (BeginV G.rm).2 (List.replicate G.p.nts.length false)):=(if_pos hc).trans (by rw [hbv]; exact if_pos hb)
  rw [e]
  exact Jul (p:=Jvu ((BeginV G.rm).2,Jcf G.p (BeginV G.rm).2 (List.replicate G.p.nts.length false))) hc (Jfi hV.ck hb) (by show (Jcf G.p _ _).length=_; rw [Jdl,List.length_replicate,Game.p_nlen])
 have e:Jcb G.p=((BeginV G.rm).1,noP):=(if_pos hc).trans (by rw [hbv]; exact if_neg hb)
 rw [e] at h
 exact absurd h hb
theorem Jjq {G:Game} {p:Pos} {m:Move} (h:(Jbh G.p p.x m).1=0):Ja7 G.p p.x m=true∧(Jbh G.p p.x m).2=Jc9 G.p p.x m∧posG G.p (Jbh G.p p.x m).2=0:=by
 have hq:=Jso h
 have hP:=Jfh hq
 have hb:Ja7 G.p p.x m=true:=by
  unfold Jbh at h
  rw [if_pos hq] at h
  split at h
  ·
   assumption
  cases h
 have e:Jbh G.p p.x m=(0,Jc9 G.p p.x m):=(if_pos hq).trans (if_pos hb)
 refine ⟨hb,by rw [e],?_⟩
 rw [e]
 have h2:=Jsi (m:=m) hP
 rw [Jbj hb] at h2
 exact Jul (p:=Jvu (Jc9 G.p p.x m)) (Jpi hq) h2.1 h2.2
end Go.Proofs.YtbboikncaihafaaGreatDoor
