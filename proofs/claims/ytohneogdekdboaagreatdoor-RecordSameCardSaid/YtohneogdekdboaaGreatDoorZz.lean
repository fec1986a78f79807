/- Merged texts of this proof (walks and plain laws), printed by a program of the prover. -/
import Derived.Test.YtohneogdekdboaaGreatDoorZu
import Derived.Test.YtohneogdekdboaaGreatDoorZb
import Derived.Test.YtohneogdekdboaaGreatDoorZv
import Derived.Test.YtohneogdekdboaaGreatDoorZw
set_option maxHeartbeats 8000000
namespace Go.Proofs.YtohneogdekdboaaGreatDoor
open Go.RowKit Go.Proofs
set_option maxRecDepth 100000
set_option linter.unusedVariables false
set_option linter.unusedSimpArgs false
def Jjp (x : PX) : Pos := ⟨⟨⟨.slice none 0 0, x.1.1⟩, ⟨.slice none 0 0, x.1.2.1⟩, ⟨.slice none 0 0, x.1.2.2⟩⟩, ⟨.slice none 0 0, x.2⟩⟩
theorem Jb8 {G : Game} (h : (Jah G.p).1 = 0) : posG G.p (Jah G.p).2 = 0 := by
 have hbv : BeginV G.p.rm = BeginV G.rm := (G.p_alike.BeginV).symm
 have hc : Jbj G.p = 0 := by
  by_cases hc : Jbj G.p = 0
  ·
   exact hc
  unfold Jah at h; rw [if_neg hc] at h; exact h
 have hV := Jlq hc
 by_cases hb : (BeginV G.rm).1 = 0
 ·
  have e : Jah G.p = (0, (BeginV G.rm).2, Jc8 G.p (BeginV G.rm).2 (List.replicate G.p.nts.length false)) := (if_pos hc).trans (by rw [hbv]; exact if_pos hb)
  rw [e]
  exact J2z (p := Jjp ((BeginV G.rm).2, Jc8 G.p (BeginV G.rm).2 (List.replicate G.p.nts.length false))) hc (Jki hV.ck hb) (by show (Jc8 G.p _ _).length = _; rw [Jfa, List.length_replicate, Game.p_nlen])
 have e : Jah G.p = ((BeginV G.rm).1, noP) := (if_pos hc).trans (by rw [hbv]; exact if_neg hb)
 rw [e] at h
 exact absurd h hb
theorem Jen {G : Game} {p : Pos} {m : Move} (h : (Jaf G.p p.x m).1 = 0) : Ja7 G.p p.x m = true ∧ (Jaf G.p p.x m).2 = Jd9 G.p p.x m ∧ posG G.p (Jaf G.p p.x m).2 = 0 := by
 have hq := J1m h
 have hP := Jed hq
 have hb : Ja7 G.p p.x m = true := by
  unfold Jaf at h
  rw [if_pos hq] at h
  split at h
  ·
   assumption
  cases h
 have e : Jaf G.p p.x m = (0, Jd9 G.p p.x m) := (if_pos hq).trans (if_pos hb)
 refine ⟨hb, by rw [e], ?_⟩
 rw [e]
 have h2 := Jz6 (m := m) hP
 rw [Jca hb] at h2
 exact J2z (p := Jjp (Jd9 G.p p.x m)) (J36 hq) h2.1 h2.2
end Go.Proofs.YtohneogdekdboaaGreatDoor
