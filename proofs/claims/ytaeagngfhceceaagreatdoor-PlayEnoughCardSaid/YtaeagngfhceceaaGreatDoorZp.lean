/- Merged texts of this proof (walks and plain laws), printed by a program of the prover. -/
import Derived.Test.YtaeagngfhceceaaGreatDoorZo
import Derived.Test.YtaeagngfhceceaaGreatDoorZm
import Derived.Test.YtaeagngfhceceaaGreatDoorZb
import Derived.Test.YtaeagngfhceceaaGreatDoorZg
set_option maxHeartbeats 8000000
namespace Go.Proofs.YtaeagngfhceceaaGreatDoor
open Go.RowKit Go.Proofs
set_option maxRecDepth 100000
set_option linter.unusedVariables false
set_option linter.unusedSimpArgs false
end Go.Proofs.YtaeagngfhceceaaGreatDoor
set_option maxHeartbeats 8000000
namespace Go.Proofs.YtaeagngfhceceaaGreatDoor
open Go.RowKit Go.Proofs
set_option maxRecDepth 100000
set_option linter.unusedVariables false
set_option linter.unusedSimpArgs false
end Go.Proofs.YtaeagngfhceceaaGreatDoor
set_option maxHeartbeats 8000000
namespace Go.Proofs.YtaeagngfhceceaaGreatDoor
open Go.RowKit Go.Proofs
set_option maxRecDepth 100000
set_option linter.unusedVariables false
set_option linter.unusedSimpArgs false
theorem GoodP.small {G : Game} {p : Pos} (h : GoodP G p) : (p.st.ths.l.length ≤ 1000000 ∧ p.st.prs.l.length ≤ 1000000 ∧ p.st.pls.l.length ≤ 1000000) ∧ p.rd.l.length ≤ 1000000 := by
 have h1 := h.ln
 have h2 := h.nn
 exact ⟨h.inn.small h.ready, by omega⟩
theorem lockG_pos {G : GP} {x : PX} {lk : Int} (h : lockG G x lk = 0) : posG G x = 0 := (or0_0 h).1
theorem lockG_in {G : Game} {x : PX} {lk : Int} (h : lockG G.p x lk = 0) : 0 ≤ lk ∧ lk < G.lks.l.length := by
 have h2 := (or0_0 h).2
 split at h2
 ·
  rename_i h3
  have h4 : 0 ≤ lk ∧ lk ≤ (G.lks.l.length : Int) - 1 := by
   simp only [Bool.and_eq_true, decide_eq_true_eq] at h3
   exact h3
  omega
 ·
  cases h2
section
variable {P : Program} {n0 : Nat} {w0 : World} {L : List SA} {l : List Value} {d : Option Tmp} {ty : TypeId} {ps : String} {af : Array Edge} {g : Option (Nat × Bool)}
theorem det_ldPB {p : World → Prop} {α : Type} [Inhabited α] {C : Cel α} {T : TypeId} {z jj : Nat} {x : Operand} {y : Value} {s : Sl α} {i : Int}
  (hj' : L[jj]? = some (roS p)) (hp : ∀ u, p u → SlT C u s) (hx : evo l x = some (.pointer (some (sla s.v (i.toNat * 1))))) (hk : C.k = 1) (h : 0 ≤ i ∧ i < s.l.length)
  (hc : (C.cells (nth s.l i))[0]? = some y) (hT : tk P T = some (false, z)) : Det P (St n0 w0 L) ⟨d, .load T x, ty, ps, af, g⟩ l y := by
 refine det_loadS hx (fun _ hu => (hp _ (St.ro hj' hu)).sp) ?_ hT
 have := flatC_at C h.1 h.2 0 (by omega)
 rw [hk, Nat.add_zero] at this
 rw [this]; exact hc
end
end Go.Proofs.YtaeagngfhceceaaGreatDoor
