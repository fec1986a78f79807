/- Merged texts of this proof (walks and plain laws), printed by a program of the prover. -/
import Derived.Test.YtfbfdnoodccgiaaGreatDoorZu
import Derived.Test.YtfbfdnoodccgiaaGreatDoorZb
import Derived.Test.YtfbfdnoodccgiaaGreatDoorZv
import Derived.Test.YtfbfdnoodccgiaaGreatDoorZw
set_option maxHeartbeats 8000000
namespace Go.Proofs.YtfbfdnoodccgiaaGreatDoor
open Go.RowKit Go.Proofs
set_option maxRecDepth 100000
set_option linter.unusedVariables false
set_option linter.unusedSimpArgs false
def Jry (x:PX):Pos:=⟨⟨⟨.slice none 0 0,x.1.1⟩,⟨.slice none 0 0,x.1.2.1⟩,⟨.slice none 0 0,x.1.2.2⟩⟩,⟨.slice none 0 0,x.2⟩⟩
theorem Jk9 {G:Game} (h:(Jal G.p).1=0):posG G.p (Jal G.p).2=0:=by
 have hbv:BeginV G.p.rm=BeginV G.rm:=(G.p_alike.BeginV).symm
 have hc:Jbl G.p=0:=by
  by_cases hc:Jbl G.p=0
  ·
   exact hc
  unfold Jal at h; rw [if_neg hc] at h; exact h
 have hV:=Jji hc
 by_cases hb:(BeginV G.rm).1=0
 ·
  have e:Jal G.p=(0,(BeginV G.rm).2,Jb3 G.p (BeginV G.rm).2 (List.replicate G.p.nts.length false)):=(if_pos hc).trans (by rw [hbv]; exact if_pos hb)
  rw [e]
  exact Jyi (p:=Jry ((BeginV G.rm).2,Jb3 G.p (BeginV G.rm).2 (List.replicate G.p.nts.length false))) hc (Jkt hV.ck hb) (by show (Jb3 G.p _ _).length=_; rw [Jc7,List.length_replicate,Game.p_nlen])
 have e:Jal G.p=((BeginV G.rm).1,noP):=(if_pos hc).trans (by rw [hbv]; exact if_neg hb)
 rw [e] at h
 exact absurd h hb
theorem Jj6 {G:Game} {p:Pos} {m:Move} (h:(Jam G.p p.x m).1=0):Ja6 G.p p.x m=true∧(Jam G.p p.x m).2=Jcw G.p p.x m∧posG G.p (Jam G.p p.x m).2=0:=by
 have hq:=Jwr h
 have hP:=Jeu hq
 have hb:Ja6 G.p p.x m=true:=by
  unfold Jam at h
  rw [if_pos hq] at h
  split at h
  ·
   assumption
  cases h
 have e:Jam G.p p.x m=(0,Jcw G.p p.x m):=(if_pos hq).trans (if_pos hb)
 refine ⟨hb,by rw [e],?_⟩
 rw [e]
 have h2:=Jv6 (m:=m) hP
 rw [Jbc hb] at h2
 exact Jyi (p:=Jry (Jcw G.p p.x m)) (J0g hq) h2.1 h2.2
end Go.Proofs.YtfbfdnoodccgiaaGreatDoor
