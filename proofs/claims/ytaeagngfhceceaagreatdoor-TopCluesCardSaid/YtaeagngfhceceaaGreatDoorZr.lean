/- Merged texts of this proof (walks and plain laws), printed by a program of the prover. -/
import Derived.Test.YtaeagngfhceceaaGreatDoorZq
import Derived.Test.YtaeagngfhceceaaGreatDoorZk
set_option maxHeartbeats 8000000
namespace Go.Proofs.YtaeagngfhceceaaGreatDoor
open Go.RowKit Go.Proofs
set_option maxRecDepth 100000
set_option linter.unusedVariables false
set_option linter.unusedSimpArgs false
theorem cluN_set {G : GP} {rd : List Bool} {i lk : Int} (h0 : 0 ≤ i) (hk : lk ≠ (nth G.nts i).lk) : cluN G (rd.set i.toNat true) lk = cluN G rd lk := by
 unfold cluN filI
 refine List.filter_congr fun j hj => ?_
 unfold iotaI at hj
 obtain ⟨q, hq, rfl⟩ := List.mem_map.1 hj
 by_cases e : (q : Int) = i
 ·
  rw [e, decide_eq_false (fun h => hk h.symm), Bool.and_false, Bool.and_false]
 ·
  rw [nth_set_ne h0 (by omega) e]
theorem openB_set {G : GP} {rd : List Bool} {i lk : Int} (h0 : 0 ≤ i) (hk : lk ≠ (nth G.nts i).lk) : openB G (rd.set i.toNat true) lk = openB G rd lk := by unfold openB; rw [cluN_set h0 hk]
theorem KeptO.drop {G : GP} {rd : List Bool} {f : Int → Int} (h : KeptO G rd f) {i lk : Int} (h0 : 0 ≤ i) (hk : lk = (nth G.nts i).lk) : KeptO G (rd.set i.toNat true) (updI f lk 0) := fun k => by
 unfold updI
 split
 ·
  exact .inl rfl
 ·
  rename_i e; rw [openB_set h0 (by rw [← hk]; exact e)]; exact h k
end Go.Proofs.YtaeagngfhceceaaGreatDoor
set_option maxHeartbeats 8000000
namespace Go.Proofs.YtaeagngfhceceaaGreatDoor
open Go.RowKit Go.Proofs
set_option maxRecDepth 100000
set_option linter.unusedVariables false
set_option linter.unusedSimpArgs false
end Go.Proofs.YtaeagngfhceceaaGreatDoor
