/- Plain laws on what wheels show. No program in sight. -/
import Derived.Test.YtldagbcceefcdaaLeft
namespace Go.Proofs.Ytldagbcceefcdaa
set_option linter.unusedVariables false
set_option linter.unusedSimpArgs false
open Go.RowKit

section
variable {w s : Int} {L : List (List Int)}
theorem showL_len : (showL w s L).length = w.toNat := by simp [showL, rowsTo]
theorem show_at {i : Int} (h0 : 0 ≤ i) (h1 : i < w) : nth (showL w s L) i = rowTo w L i.toNat s.toNat := by
  have : i.toNat < w.toNat := by omega
  have h2 : i.toNat < w.toNat := this
  unfold nth showL rowsTo
  rw [List.getD, List.getElem?_map, List.getElem?_range this]
  simp only [Option.map_some, Option.getD_some, if_pos h2]
theorem row_mem {i m : Nat} {n : Int} (h : n ∈ rowTo w L i m) : 0 ≤ n ∧ n < m ∧ (i : Int) < w ∧ ∃ y ∈ L, nth y i = n := by
  unfold rowTo at h
  obtain ⟨k, hk, rfl⟩ := List.mem_map.1 h
  obtain ⟨h1, h2⟩ := List.mem_filter.1 hk
  unfold flag at h2
  simp only [Bool.and_eq_true, decide_eq_true_eq, List.any_eq_true] at h2
  obtain ⟨h3, y, hy, hn⟩ := h2
  simp at h1
  refine ⟨by simp, by simp; omega, h3, y, hy, ?_⟩
  rw [hn]; rfl
theorem row_has {i m : Nat} (hi : (i : Int) < w) {y : List Int} (hy : y ∈ L) (h0 : 0 ≤ nth y i) (h1 : nth y i < m) : nth y i ∈ rowTo w L i m := by
  unfold rowTo
  rw [List.mem_map]
  refine ⟨(nth y i).toNat, List.mem_filter.2 ⟨by simp; omega, ?_⟩, by simp; omega⟩
  unfold flag
  simp only [Bool.and_eq_true, decide_eq_true_eq, List.any_eq_true]
  exact ⟨hi, y, hy, by omega⟩
theorem row_inc {i m : Nat} {k : Int} (h0 : 0 < k) (h1 : k < (rowTo w L i m).length) : nth (rowTo w L i m) (k - 1) < nth (rowTo w L i m) k := by
  have hp : (rowTo w L i m).Pairwise (· < ·) := by
    unfold rowTo
    rw [List.pairwise_map]
    refine List.Pairwise.imp ?_ (List.Pairwise.filter _ (List.pairwise_lt_range (n := m)))
    intro a b hab
    simp; omega
  rw [List.pairwise_iff_getElem] at hp
  have e1 : k.toNat < (rowTo w L i m).length := by omega
  have e2 : (k - 1).toNat < (rowTo w L i m).length := by omega
  have := hp (k - 1).toNat k.toNat e2 e1 (by omega)
  unfold nth
  rw [List.getD, List.getD, List.getElem?_eq_getElem e1, List.getElem?_eq_getElem e2]
  exact this
theorem row_some (hL : ∀ y ∈ L, codeB w s y = true) {i : Nat} (hi : (i : Int) < w) : 0 < (rowTo w L i s.toNat).length ↔ 0 < L.length := by
  constructor
  · intro h
    obtain ⟨_, _, _, y, hy, _⟩ := row_mem (List.getElem_mem h)
    exact List.length_pos_of_mem hy
  · intro h
    have hy := List.getElem_mem h
    have h1 := hL _ hy
    have h2 := code_of h1
    have h3 := h2.2 _ (nth_mem (xs := L[0]) (i := i) (by omega) (by omega))
    exact List.length_pos_of_mem (row_has (m := s.toNat) hi hy h3.1 (by omega))
end
section
variable {w s : Int} {cs : List Clue}
def notAt (i n : Int) : Clue := ⟨1, i, 0, n, 0, [], true⟩
theorem notAt_holds (i n : Int) (y : List Int) : holdsT (notAt i n) y = !decide (nth y i = n) := by
  unfold holdsT
  have : plainT (notAt i n) y = decide (nth y i = n) := by simp only [plainT, notAt]; rfl
  rw [this]
  show (_ != true) = _
  cases decide (nth y i = n) <;> rfl
theorem notAt_clue (hL : lockB w s = true) {i n : Int} (h0 : 0 ≤ i) (h1 : i < w) (h2 : 0 ≤ n) (h3 : n < s) : clueB w s (notAt i n) = true := by
  simp only [clueB, notAt]
  simp [within]
  omega
theorem notAt_imp {i n : Int} (h : ∃ y ∈ readL w s cs, nth y i = n) : (impL w s cs (notAt i n)).isNone = false := by
  cases hI : impL w s cs (notAt i n) with
  | some _ => rfl
  | none =>
    exfalso
    obtain ⟨y, hy, hn⟩ := h
    rw [impL, List.find?_eq_none] at hI
    have := hI y hy
    rw [notAt_holds, decide_eq_true hn] at this
    simp at this
theorem prE_of (h : cluesE w s cs = 0) : (prE w s cs = 0 ↔ 1 < (readL w s cs).length) ∧ (prE w s cs = 0 ∨ prE w s cs = 3) := by
  unfold prE
  rw [if_pos h]
  split <;> omega
theorem one_only {α : Type} [Inhabited α] {R : List α} {x : α} (h : R.length = 1) (hx : x ∈ R) : nth (R.take (1 : Int).toNat) 0 = x := by
  match R, h with
  | [a], _ =>
    simp only [List.mem_singleton] at hx
    subst hx
    rfl
end
end Go.Proofs.Ytldagbcceefcdaa
