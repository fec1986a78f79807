/- Plain laws on answers: who is right, what is common. No program in sight. -/
import Derived.Test.YtldagbcceefcdaaClue
namespace Go.Proofs.Ytldagbcceefcdaa
set_option linter.unusedVariables false
set_option linter.unusedSimpArgs false
open Go.RowKit

def sumC (f : Int → Int) : Nat → Int
  | 0 => 0
  | n + 1 => sumC f n + f n
theorem sumC_le {f g : Int → Int} (h : ∀ s, f s ≤ g s) : ∀ n, sumC f n ≤ sumC g n
  | 0 => by simp [sumC]
  | n + 1 => by have := sumC_le h n; have := h n; simp only [sumC]; omega
theorem sumC_add (f g : Int → Int) : ∀ n, sumC (fun s => f s + g s) n = sumC f n + sumC g n
  | 0 => by simp [sumC]
  | n + 1 => by have := sumC_add f g n; simp only [sumC]; omega
theorem sumC_one (x : Int) : ∀ n : Nat, sumC (fun s => if x = s then 1 else 0) n = if 0 ≤ x ∧ x < n then 1 else 0
  | 0 => by simp only [sumC]; rw [if_neg (by omega)]
  | n + 1 => by
    have := sumC_one x n
    simp only [sumC, this]
    by_cases h1 : x = n
    · rw [if_neg (by omega), if_pos h1, if_pos (by omega)]; rfl
    · rw [if_neg h1]
      by_cases h2 : 0 ≤ x ∧ x < n
      · rw [if_pos h2, if_pos (by omega)]; rfl
      · rw [if_neg h2, if_neg (by omega)]; rfl
theorem sumC_zero : ∀ n, sumC (fun _ => 0) n = 0
  | 0 => rfl
  | n + 1 => by simp [sumC, sumC_zero n]
theorem common_sum (xs ys : List Int) : ∀ n, commonN xs ys n = sumC (fun s => min (cnt xs s) (cnt ys s)) n
  | 0 => rfl
  | n + 1 => by simp only [commonN, sumC, common_sum xs ys n]
theorem cnt_cons (x : Int) (xs : List Int) (s : Int) : cnt (x :: xs) s = (if x = s then 1 else 0) + cnt xs s := by
  unfold cnt
  by_cases h : x = s <;> simp [List.filter_cons, h] <;> omega
theorem sum_cnt : ∀ (xs : List Int), (∀ x ∈ xs, 0 ≤ x ∧ x < 10) → sumC (cnt xs) 10 = xs.length
  | [], _ => by rw [show cnt [] = fun _ => 0 from rfl, sumC_zero]; rfl
  | x :: xs, h => by
    have h1 := sum_cnt xs fun y hy => h y (by simp [hy])
    have h2 := h x (by simp)
    have e : cnt (x :: xs) = fun s => (if x = s then 1 else 0) + cnt xs s := by funext s; exact cnt_cons x xs s
    rw [e, sumC_add, sumC_one, h1, if_pos (by omega)]
    simp only [List.length_cons]; omega
/-- The places that hold s in both. -/
def both : List Int → List Int → Int → Int
  | x :: xs, y :: ys, s => (if x = s ∧ y = s then 1 else 0) + both xs ys s
  | _, _, _ => 0
theorem both_le : ∀ (xs ys : List Int) (s : Int), both xs ys s ≤ min (cnt xs s) (cnt ys s)
  | [], ys, s => by have := cnt_le ys s; simp only [both, cnt_nil]; omega
  | x :: xs, [], s => by have := cnt_le (x :: xs) s; simp only [both, cnt_nil]; omega
  | x :: xs, y :: ys, s => by
    have := both_le xs ys s
    simp only [both, cnt_cons]
    by_cases h1 : x = s <;> by_cases h2 : y = s <;> simp [h1, h2] <;> omega
theorem sum_both : ∀ (xs ys : List Int), (∀ x ∈ xs, 0 ≤ x ∧ x < 10) → sumC (both xs ys) 10 = rightN xs ys
  | [], ys, _ => by rw [show both [] ys = fun _ => 0 from by funext s; simp [both], sumC_zero]; simp [rightN]
  | x :: xs, [], _ => by rw [show both (x :: xs) [] = fun _ => 0 from by funext s; simp [both], sumC_zero]; simp [rightN]
  | x :: xs, y :: ys, h => by
    have h1 := sum_both xs ys fun z hz => h z (by simp [hz])
    have h2 := h x (by simp)
    by_cases hxy : x = y
    · subst hxy
      have e : both (x :: xs) (x :: ys) = fun s => (if x = s then 1 else 0) + both xs ys s := by funext s; simp [both]
      rw [e, sumC_add, sumC_one, h1, if_pos (by omega)]
      simp [rightN]
    · have e : both (x :: xs) (y :: ys) = fun s => both xs ys s := by
        funext s
        simp only [both]
        rw [if_neg (by omega)]; omega
      rw [e, h1]
      simp [rightN, hxy]
theorem right_common {xs ys : List Int} (h : ∀ x ∈ xs, 0 ≤ x ∧ x < 10) : rightN xs ys ≤ commonN xs ys 10 := by
  rw [← sum_both xs ys h, common_sum]
  exact sumC_le (fun s => both_le xs ys s) 10
theorem common_len {xs ys : List Int} (h : ∀ x ∈ xs, 0 ≤ x ∧ x < 10) : commonN xs ys 10 ≤ xs.length := by
  rw [← sum_cnt xs h, common_sum]
  exact sumC_le (fun s => by omega) 10
theorem common_self {xs : List Int} (h : ∀ x ∈ xs, 0 ≤ x ∧ x < 10) : commonN xs xs 10 = xs.length := by
  rw [← sum_cnt xs h, common_sum]
  congr 1
  funext s
  omega
theorem common_comm (xs ys : List Int) (n : Nat) : commonN xs ys n = commonN ys xs n := by
  rw [common_sum, common_sum]
  congr 1
  funext s
  omega
theorem right_comm : ∀ (xs ys : List Int), rightN xs ys = rightN ys xs
  | [], [] => rfl
  | [], _ :: _ => rfl
  | _ :: _, [] => rfl
  | x :: xs, y :: ys => by simp only [rightN, right_comm xs ys, eq_comm]
theorem right_self : ∀ (xs : List Int), rightN xs xs = xs.length
  | [] => rfl
  | x :: xs => by simp [rightN, right_self xs]; omega
theorem right_nonneg : ∀ (xs ys : List Int), 0 ≤ rightN xs ys
  | [], _ => by simp [rightN]
  | _ :: _, [] => by simp [rightN]
  | x :: xs, y :: ys => by have := right_nonneg xs ys; simp only [rightN]; split <;> omega
theorem right_full : ∀ {xs ys : List Int}, xs.length = ys.length → rightN xs ys = xs.length → xs = ys
  | [], [], _, _ => rfl
  | x :: xs, y :: ys, hl, h => by
    have h1 := rightN_le xs ys
    simp only [rightN, List.length_cons] at h
    by_cases hxy : x = y
    · rw [if_pos hxy] at h
      have e := right_full (xs := xs) (ys := ys) (by simpa using hl) (by omega)
      rw [hxy, e]
    · rw [if_neg hxy] at h
      exfalso
      omega
  | [], _ :: _, hl, _ => by simp at hl
  | _ :: _, [], hl, _ => by simp at hl

theorem ansE_0 {w s : Int} {xs ys : List Int} : ansE w s xs ys = 0 ↔ lockB w s = true ∧ codeB w s xs = true ∧ codeB w s ys = true := by
  unfold ansE codeE
  cases lockB w s <;> cases codeB w s xs <;> cases codeB w s ys <;> simp
theorem ansE_comm0 {w s : Int} {xs ys : List Int} : ansE w s xs ys = 0 ↔ ansE w s ys xs = 0 := by
  rw [ansE_0, ansE_0]; grind
theorem ans_self {w s : Int} {xs ys : List Int} (h : ansE w s xs ys = 0) : ansE w s xs xs = 0 ∧ rightN xs xs = w ∧ commonN xs xs 10 - rightN xs xs = 0 := by
  obtain ⟨h1, h2, h3⟩ := ansE_0.1 h
  have h4 := code_ten h1 h2
  have h5 := code_of h2
  refine ⟨ansE_0.2 ⟨h1, h2, h2⟩, ?_, ?_⟩
  · rw [right_self]; exact h5.1
  · rw [right_self, common_self h4.2]; omega
theorem ans_two {w s : Int} {xs ys : List Int} (h : ansE w s xs ys = 0) : rightN xs ys = rightN ys xs ∧ commonN xs ys 10 = commonN ys xs 10 ∧ 0 ≤ rightN xs ys ∧ rightN xs ys ≤ commonN xs ys 10 ∧ commonN xs ys 10 ≤ w ∧ (rightN xs ys = w ↔ xs = ys) := by
  obtain ⟨h1, h2, h3⟩ := ansE_0.1 h
  have h4 := code_ten h1 h2
  have h5 := code_of h2
  have h6 := code_of h3
  refine ⟨right_comm _ _, common_comm _ _ _, right_nonneg _ _, right_common h4.2, ?_, fun h => ?_, fun h => ?_⟩
  · have := common_len (ys := ys) h4.2; omega
  · exact right_full (by omega) (by omega)
  · subst h; rw [right_self]; exact h5.1

end Go.Proofs.Ytldagbcceefcdaa
