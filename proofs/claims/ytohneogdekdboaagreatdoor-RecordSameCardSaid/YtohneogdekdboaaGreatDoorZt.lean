/- Merged texts of this proof (walks and plain laws), printed by a program of the prover. -/
import Derived.Test.YtohneogdekdboaaGreatDoorZs
import Derived.Test.YtohneogdekdboaaGreatDoorZl
set_option maxHeartbeats 8000000
namespace Go.Proofs.YtohneogdekdboaaGreatDoor
open Go.RowKit Go.Proofs
set_option maxRecDepth 100000
set_option linter.unusedVariables false
set_option linter.unusedSimpArgs false
theorem HasZ.pack {w : World} {z : Stt} {Z : SA} {B : List SA} {j : Nat} (hZ : HasZ w Z z) (hj : B[j]? = some Z) : HasZ w (Go.Proofs.YtohneogdekdboaaGreatDoor.star B) z := ⟨fun {L} {u} {i} hi hu => by
 have h1 : St w.heap.size w (Go.Proofs.YtohneogdekdboaaGreatDoor.star B :: L.eraseIdx i) u := hu.perm (Ji7 hi)
 have hjl := (List.getElem?_eq_some_iff.1 hj).1
 exact hZ.get (L := B ++ L.eraseIdx i) (j := j) (by rw [List.getElem?_append_left hjl]; exact hj) h1.unpack⟩
theorem J2z {G : Game} {p : Pos} (hc : Jbj G.p = 0) (hI : StIn G.rm p.st.x) (hl : p.rd.l.length = G.nts.l.length) : posG G.p p.x = 0 := by
 rw [Jhk, Jbq hc, Jbq (show Je5 G.rm p.st = 0 from Jf3.2 ⟨(Jlq hc).ck, hI⟩), if_pos (by omega)]
theorem J36 {G : GP} {x : PX} (h : posG G x = 0) : Jbj G = 0 := (Jcs h).1
theorem Jz6 {G : Game} {p : Pos} {m : Move} (hP : GoodP G p) : StIn G.rm (Jdj G.p p.x m).1 ∧ (Jdj G.p p.x m).2.length = G.nts.l.length := by
 unfold Jdj
 split
 ·
  rename_i h
  exact ⟨Jtx hP h, by unfold Jd9; rw [Jfa]; exact hP.ln⟩
 exact ⟨hP.inn, hP.ln⟩
end Go.Proofs.YtohneogdekdboaaGreatDoor
