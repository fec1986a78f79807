/- Merged texts of this proof (walks and plain laws), printed by a program of the prover. -/
import Derived.Test.YtaeagngfhceceaaGreatDoorY1
import Derived.Test.YtaeagngfhceceaaGreatDoorY2
import Derived.Test.YtaeagngfhceceaaGreatDoorY4
import Derived.Test.YtaeagngfhceceaaGreatDoorY8
import Derived.Test.YtaeagngfhceceaaGreatDoorY10
import Derived.Test.YtaeagngfhceceaaGreatDoorY12
import Derived.Test.YtaeagngfhceceaaGreatDoorZb
import Derived.Laws.StructEq
import Derived.ChangeKeysEq
import Derived.Test.YtaeagngfhceceaaGreatDoorZp
namespace Go.Proofs.YtaeagngfhceceaaGreatDoor
set_option linter.unusedVariables false
set_option linter.unusedSimpArgs false
open Go.RowKit
section
variable {P : Program}
variable {l : List Value} {d : Option Tmp} {ty : TypeId} {ps : String} {af : Array Edge} {g : Option (Nat × Bool)} {C : World → Prop}
theorem det_eqAgg {T T' : TypeId} {x y : Operand} {xs ys : List Value} {b : Bool} {sp : List (Nat × Nat)} (hA : agq P T = some sp) (hx : evo l x = some (.agg xs.toArray)) (hy : evo l y = some (.agg ys.toArray)) (hb : cmps xs ys sp = some b) :
    Det P C ⟨d, .binOp .eql T x y T', ty, ps, af, g⟩ l (.bool b) := fun u _ => by
  (replace hx := ev_of hx; replace hy := ev_of hy)
  obtain ⟨h1, h2⟩ := agq_run (w := u) hA hb
  simp [execOp, DetUpon, hx, hy, h1, run_eql_struct, h2]
end
end Go.Proofs.YtaeagngfhceceaaGreatDoor
namespace Go.Proofs.YtaeagngfhceceaaGreatDoor
set_option linter.unusedVariables false
set_option linter.unusedSimpArgs false
open Go.RowKit
theorem candK_mem {p k n : Int} {c : Nat} (h0 : 0 ≤ n) (h1 : n < c) : (⟨p, k, n⟩ : Move) ∈ candK p k c := by
  unfold candK
  rw [List.mem_map]
  exact ⟨n.toNat, List.mem_range.2 (by omega), by simp; omega⟩
theorem candP_mem {p k n : Int} (h0 : 1 ≤ k) (h2 : 0 ≤ n) (h3 : n < 24) : ∀ {j : Nat}, k ≤ j → (⟨p, k, n⟩ : Move) ∈ candP p j
  | 0, h => by omega
  | j + 1, h => by
    rw [candP, List.mem_append]
    by_cases hk : k = j + 1
    · exact .inr (by rw [← hk]; exact candK_mem h2 (by omega))
    · exact .inl (candP_mem h0 h2 h3 (by omega))
theorem candL_mem {p k n : Int} (h0 : 0 ≤ p) (h1 : 1 ≤ k ∧ k ≤ 4) (h2 : 0 ≤ n) (h3 : n < 24) : ∀ {q : Nat}, p < q → (⟨p, k, n⟩ : Move) ∈ candL q
  | 0, h => by omega
  | q + 1, h => by
    rw [candL, List.mem_append]
    by_cases hp : p = q
    · exact .inr (by rw [← hp]; exact candP_mem h1.1 h2 h3 (by omega))
    · exact .inl (candL_mem h0 h1 h2 h3 (by omega))
theorem legal_range {r : Room} (hR : Ready r) {x : P3} (hI : StIn r x) {m : Move} (h : legalB r x m = true) : (0 ≤ m.p ∧ m.p < r.ply) ∧ (1 ≤ m.k ∧ m.k ≤ 4) ∧ 0 ≤ m.n ∧ m.n < 24 := by
  have hM := move_in hR hI h
  have hl := hR.lens
  have hlp := hI.lp
  have hk : m.k = 1 ∨ m.k = 2 ∨ m.k = 3 ∨ m.k = 4 := by
    unfold legalB at h
    split at h
    · split at h
      · exact .inl (by assumption)
      · split at h
        · exact .inr (.inl (by assumption))
        · split at h
          · exact .inr (.inr (.inl (by assumption)))
          · split at h
            · exact .inr (.inr (.inr (by assumption)))
            · cases h
    · cases h
  refine ⟨⟨hM.p.1, by have := hM.p.2.1; have := hI.ll; omega⟩, by omega, ?_⟩
  rcases hk with hk | hk | hk | hk
  · have := hM.go hk; omega
  · have := hM.pr (.inl hk); omega
  · have := hM.pr (.inr hk); omega
  · have := hM.ac hk; omega
theorem legal_any {r : Room} (hR : Ready r) {x : P3} (hI : StIn r x) (m : Move) : ((legalL r x).any fun y => decide (y = m)) = legalB r x m := by
  cases hL : legalB r x m with
  | true =>
    obtain ⟨h1, h2, h3, h4⟩ := legal_range hR hI hL
    refine List.any_eq_true.2 ⟨m, List.mem_filter.2 ⟨?_, hL⟩, by simp⟩
    obtain ⟨p, k, n⟩ := m
    have h5 : p < r.ply := h1.2
    exact candL_mem (p := p) h1.1 h2 h3 h4 (by omega)
  | false =>
    rw [List.any_eq_false]
    intro y hy
    have := (List.mem_filter.1 hy).2
    intro he
    rw [decide_eq_true_eq] at he
    rw [he, hL] at this
    cases this
end Go.Proofs.YtaeagngfhceceaaGreatDoor
set_option maxHeartbeats 8000000
namespace Go.Proofs.YtaeagngfhceceaaGreatDoor
open Go.RowKit Go.Proofs
set_option maxRecDepth 100000
set_option linter.unusedVariables false
set_option linter.unusedSimpArgs false
theorem moves_mem {G : Game} {p : Pos} {m : Move} (hP : GoodP G p) (h : possB G.p p.x m = true) : m ∈ movesX G.p p.x := by
 rw [movesX_p, List.mem_filter]
 refine ⟨?_, h⟩
 have h1 := legal_any hP.ready hP.inn m
 rw [poss_legal h, List.any_eq_true] at h1
 obtain ⟨y, hy, he⟩ := h1
 rw [← of_decide_eq_true he]
 exact hy
theorem moves_poss {G : Game} {p : Pos} {i : Int} (h0 : 0 ≤ i) (h1 : i < (movesX G.p p.x).length) : possB G.p p.x (nth (movesX G.p p.x) i) = true := by
 have := nth_mem h0 h1
 rw [movesX_p] at this
 rw [movesX_p]
 exact (List.mem_filter.1 this).2
theorem moves_len {G : Game} {p : Pos} (hP : GoodP G p) : (movesX G.p p.x).length ≤ 384 := by
 have := legal_len hP.ready p.st.x
 have h2 := List.length_filter_le (possB G.p p.x) (legalL G.rm p.st.x)
 rw [movesX_p]
 exact Nat.le_trans h2 this
end Go.Proofs.YtaeagngfhceceaaGreatDoor
