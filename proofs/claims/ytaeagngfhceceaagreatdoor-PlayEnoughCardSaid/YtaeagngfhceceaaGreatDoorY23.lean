/- Merged texts of this proof (walks and plain laws), printed by a program of the prover. -/
import Derived.Test.YtaeagngfhceceaaGreatDoorY11
import Derived.Test.YtaeagngfhceceaaGreatDoorY16
import Derived.Test.YtaeagngfhceceaaGreatDoorZb
import Derived.Test.YtaeagngfhceceaaGreatDoorZu
import Derived.Test.YtaeagngfhceceaaGreatDoorZz
import Derived.Test.YtaeagngfhceceaaGreatDoorZv
import Derived.Test.YtaeagngfhceceaaGreatDoorZw
namespace Go.Proofs.YtaeagngfhceceaaGreatDoor
set_option linter.unusedVariables false
set_option linter.unusedSimpArgs false
open Go.RowKit
theorem idxF_neg {α : Type} (p : α → Bool) (xs : List α) : decide (idxF p xs < 0) = !xs.any p := by
  have := idxF_any (p := p) (xs := xs)
  rw [← this]
  by_cases h : 0 ≤ idxF p xs
  · simp [h]
  · simp [h]; omega
theorem fitB_all (cs : List Clue) (xs : List Int) : fitB cs xs = cs.all fun c => holdsT c xs := by
  unfold fitB failsT
  rw [idxF_neg, List.not_any_eq_all_not]
  simp
theorem readL_eq (w s : Int) (cs : List Clue) : readL w s cs = (allC w s).filter (fitB cs) := rfl
end Go.Proofs.YtaeagngfhceceaaGreatDoor
namespace Go.Proofs.YtaeagngfhceceaaGreatDoor
set_option linter.unusedVariables false
set_option linter.unusedSimpArgs false
open Go.RowKit
section
variable {w s : Int} {cs : List Clue}
theorem filter_mono {α : Type} {p q : α → Bool} : ∀ {L : List α}, (∀ x ∈ L, p x = true → q x = true) → (L.filter p).length ≤ (L.filter q).length
  | [], _ => by simp
  | x :: L, h => by
    have ih := filter_mono (p := p) (q := q) (L := L) (fun y hy => h y (by simp [hy]))
    have hx := h x (by simp)
    rw [List.filter_cons, List.filter_cons]
    by_cases hp : p x = true
    · rw [if_pos hp, if_pos (hx hp)]; simp only [List.length_cons]; omega
    · rw [if_neg hp]
      split
      · simp only [List.length_cons]; omega
      · exact ih
theorem readL_mono {A B : List Clue} (h : ∀ c ∈ A, c ∈ B) : (readL w s B).length ≤ (readL w s A).length := by
  rw [readL_eq, readL_eq]
  refine filter_mono fun x _ hx => ?_
  rw [fitB_all, List.all_eq_true] at hx ⊢
  exact fun c hc => hx c (h c hc)
section
variable {K : List Nat} {skip : Int}
end
section
variable {P : Program} {ro : Option Nat} {n0 : Nat} {w0 : World} {ds : List Deferred} {ops : Array Oper} {Q : Exit → Act → World → Prop} {L : List SA}
  {rest : List Oper} {l : List Value} {ty : TypeId} {ps : String} {af : Array Edge}
end
end
end Go.Proofs.YtaeagngfhceceaaGreatDoor
set_option maxHeartbeats 8000000
namespace Go.Proofs.YtaeagngfhceceaaGreatDoor
open Go.RowKit Go.Proofs
set_option maxRecDepth 100000
set_option linter.unusedVariables false
set_option linter.unusedSimpArgs false
theorem readN_mono {G : GP} {lk : Int} {ns ms : List Int} (h : ∀ k ∈ ns, k ∈ ms) : readN G lk ms ≤ readN G lk ns := by
 have := readL_mono (w := (nth G.lks lk).w) (s := (nth G.lks lk).s) (A := clsN G ns) (B := clsN G ms) (fun c hc => by
  unfold clsN at hc ⊢
  obtain ⟨k, hk, rfl⟩ := List.mem_map.1 hc
  exact List.mem_map.2 ⟨k, h k hk, rfl⟩)
 unfold readN; omega
theorem mem_filI_iff {n k : Int} {p : Int → Bool} : k ∈ filI n p ↔ (0 ≤ k ∧ k < n) ∧ p k = true := by
 refine ⟨mem_filI, fun h => ?_⟩
 unfold filI iotaI
 rw [List.mem_filter, List.mem_map]
 exact ⟨⟨k.toNat, by rw [List.mem_range]; omega, by omega⟩, h.2⟩
end Go.Proofs.YtaeagngfhceceaaGreatDoor
set_option maxHeartbeats 8000000
namespace Go.Proofs.YtaeagngfhceceaaGreatDoor
open Go.RowKit Go.Proofs
set_option maxRecDepth 100000
set_option linter.unusedVariables false
set_option linter.unusedSimpArgs false
theorem rdV {G : Game} {p : Pos} {lk : Int} (hq : posG G.p p.x = 0) (h0 : 0 ≤ lk) (h1 : lk < G.lks.l.length) : ReadingsV G.p p.x lk = (0, readN G.p lk (cluN G.p p.rd.l lk)) :=
 if_pos (by
  unfold lockG
  rw [or0_z hq, if_pos (by simp only [Bool.and_eq_true, decide_eq_true_eq]; exact ⟨h0, by show lk ≤ (G.lks.l.length : Int) - 1; omega⟩)])
end Go.Proofs.YtaeagngfhceceaaGreatDoor
