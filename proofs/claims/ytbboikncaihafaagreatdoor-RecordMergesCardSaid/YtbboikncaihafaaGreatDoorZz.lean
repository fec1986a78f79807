/- Merged texts of this proof (walks and plain laws), printed by a program of the prover. -/
import Derived.Test.YtbboikncaihafaaGreatDoorZu
import Derived.Test.YtbboikncaihafaaGreatDoorZb
import Derived.Test.YtbboikncaihafaaGreatDoorZv
import Derived.Test.YtbboikncaihafaaGreatDoorZw
set_option maxHeartbeats 8000000
namespace Go.Proofs.YtbboikncaihafaaGreatDoor
open Go.RowKit Go.Proofs
set_option maxRecDepth 100000
set_option linter.unusedVariables false
set_option linter.unusedSimpArgs false
def Jqe (x : PX) : Pos := ⟨⟨⟨.slice none 0 0, x.1.1⟩, ⟨.slice none 0 0, x.1.2.1⟩, ⟨.slice none 0 0, x.1.2.2⟩⟩, ⟨.slice none 0 0, x.2⟩⟩
theorem Ji6 {G : Game} (h : (Jai G.p).1 = 0) : posG G.p (Jai G.p).2 = 0 := by
 have hbv : BeginV G.p.rm = BeginV G.rm := (G.p_alike.BeginV).symm
 have hc : Jbi G.p = 0 := by
  by_cases hc : Jbi G.p = 0
  ·
   exact hc
  unfold Jai at h; rw [if_neg hc] at h; exact h
 have hV := Jih hc
 by_cases hb : (BeginV G.rm).1 = 0
 ·
  have e : Jai G.p = (0, (BeginV G.rm).2, Jbz G.p (BeginV G.rm).2 (List.replicate G.p.nts.length false)) := (if_pos hc).trans (by rw [hbv]; exact if_pos hb)
  rw [e]
  exact Jux (p := Jqe ((BeginV G.rm).2, Jbz G.p (BeginV G.rm).2 (List.replicate G.p.nts.length false))) hc (Jip hV.ck hb) (by show (Jbz G.p _ _).length = _; rw [Jcw, List.length_replicate, Game.p_nlen])
 have e : Jai G.p = ((BeginV G.rm).1, noP) := (if_pos hc).trans (by rw [hbv]; exact if_neg hb)
 rw [e] at h
 exact absurd h hb
theorem Ji4 {G : Game} {p : Pos} {m : Move} (h : (Jaj G.p p.x m).1 = 0) : Ja5 G.p p.x m = true ∧ (Jaj G.p p.x m).2 = Jco G.p p.x m ∧ posG G.p (Jaj G.p p.x m).2 = 0 := by
 have hq := Jsf h
 have hP := Jee hq
 have hb : Ja5 G.p p.x m = true := by
  unfold Jaj at h
  rw [if_pos hq] at h
  split at h
  ·
   assumption
  cases h
 have e : Jaj G.p p.x m = (0, Jco G.p p.x m) := (if_pos hq).trans (if_pos hb)
 refine ⟨hb, by rw [e], ?_⟩
 rw [e]
 have h2 := Js6 (m := m) hP
 rw [Jbb hb] at h2
 exact Jux (p := Jqe (Jco G.p p.x m)) (Jv8 hq) h2.1 h2.2
end Go.Proofs.YtbboikncaihafaaGreatDoor
