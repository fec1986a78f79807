/- All codes, in order. No program in sight. -/
import Derived.Test.YtldagbcceefcdaaClue
namespace Go.Proofs.Ytldagbcceefcdaa
set_option linter.unusedVariables false
set_option linter.unusedSimpArgs false
open Go.RowKit

/-- The last k digits of n to the base s. -/
def digs : Nat → Int → Int → List Int
  | 0, _, _ => []
  | k + 1, s, n => digs k s (n / s) ++ [n % s]
/-- How many codes. -/
def manyC (w s : Int) : Nat := s.toNat ^ w.toNat
def codeAt (w s : Int) (n : Nat) : List Int := digs w.toNat s n
def allC (w s : Int) : List (List Int) := (List.range (manyC w s)).map (codeAt w s)
/-- The readings of clues. -/
def readL (w s : Int) (cs : List Clue) : List (List Int) := (allC w s).filter fun xs => decide (failsT cs xs < 0)

theorem digs_len : ∀ (k : Nat) (s n : Int), (digs k s n).length = k
  | 0, _, _ => rfl
  | k + 1, s, n => by simp [digs, digs_len k]
theorem digs_zero : ∀ (k : Nat) (s : Int), digs k s 0 = List.replicate k 0
  | 0, _ => rfl
  | k + 1, s => by simp [digs, digs_zero k, List.replicate_succ']
theorem digs_mem : ∀ (k : Nat) (s n : Int), 0 < s → ∀ x ∈ digs k s n, 0 ≤ x ∧ x ≤ s - 1
  | 0, _, _, _ => by simp [digs]
  | k + 1, s, n, h => by
    intro x hx
    simp only [digs, List.mem_append, List.mem_singleton] at hx
    rcases hx with hx | rfl
    · exact digs_mem k s _ h x hx
    · have := Int.emod_nonneg n (show s ≠ 0 by omega)
      have := Int.emod_lt_of_pos n h
      omega
theorem codeAt_code {w s : Int} (hL : lockB w s = true) (n : Nat) : codeB w s (codeAt w s n) = true := by
  have h1 := lock_of hL
  simp only [codeB, within, codeAt, digs_len, Bool.and_eq_true, decide_eq_true_eq, List.all_eq_true]
  exact ⟨by omega, fun x hx => digs_mem _ s n (by omega) x hx⟩
theorem allC_len (w s : Int) : (allC w s).length = manyC w s := by simp [allC]
theorem allC_at {w s : Int} {n : Nat} (h : n < manyC w s) : (allC w s)[n]? = some (codeAt w s n) := by simp [allC, h]
theorem allC_split {w s : Int} {n : Nat} (h : n < manyC w s) : allC w s = (allC w s).take n ++ codeAt w s n :: (allC w s).drop (n + 1) := by
  have h1 := allC_at h
  obtain ⟨h2, h3⟩ := List.getElem?_eq_some_iff.1 h1
  conv => lhs; rw [← List.take_append_drop n (allC w s), List.drop_eq_getElem_cons h2, h3]
theorem allC_take {w s : Int} {n : Nat} (h : n < manyC w s) : (allC w s).take (n + 1) = (allC w s).take n ++ [codeAt w s n] := by
  obtain ⟨h2, h3⟩ := List.getElem?_eq_some_iff.1 (allC_at h)
  rw [List.take_succ_eq_append_getElem h2, h3]
theorem allC_mem {w s : Int} (hL : lockB w s = true) {xs : List Int} (h : xs ∈ allC w s) : codeB w s xs = true := by
  simp only [allC, List.mem_map, List.mem_range] at h
  obtain ⟨n, _, rfl⟩ := h
  exact codeAt_code hL n
theorem manyC_pos {w s : Int} (hL : lockB w s = true) : 0 < manyC w s := Nat.pow_pos (by have := lock_of hL; omega)
theorem manyC_le {w s : Int} (hL : lockB w s = true) : manyC w s ≤ 10000 := by
  have h1 := lock_of hL
  calc s.toNat ^ w.toNat ≤ 10 ^ w.toNat := Nat.pow_le_pow_left (by omega) _
    _ ≤ 10 ^ 4 := Nat.pow_le_pow_right (by omega) (by omega)

section
variable {w s : Int} {cs : List Clue} {pre post : List (List Int)} {x : List Int}
def fitB (cs : List Clue) (xs : List Int) : Bool := decide (failsT cs xs < 0)
theorem readL_split (hall : allC w s = pre ++ x :: post) (h : fitB cs x = true) : readL w s cs = pre.filter (fitB cs) ++ x :: post.filter (fitB cs) := by
  show (allC w s).filter (fitB cs) = _
  rw [hall]; simp [List.filter_append, List.filter_cons, h]
theorem fit_yes (h : fitB cs x = true) : (pre ++ [x]).filter (fitB cs) = pre.filter (fitB cs) ++ [x] := by simp [List.filter_append, List.filter_cons, h]
theorem fit_no (h : fitB cs x = false) : (pre ++ [x]).filter (fitB cs) = pre.filter (fitB cs) := by simp [List.filter_append, List.filter_cons, h]
theorem readL_le (hL : lockB w s = true) (cs : List Clue) : (readL w s cs).length ≤ 10000 := by
  have h1 := List.length_filter_le (fitB cs) (allC w s)
  have h2 := manyC_le hL
  rw [allC_len] at h1
  exact Nat.le_trans h1 h2
theorem readL_mem (hL : lockB w s = true) {xs : List Int} (h : xs ∈ readL w s cs) : codeB w s xs = true ∧ failsT cs xs < 0 := by
  simp only [readL, List.mem_filter, decide_eq_true_eq] at h
  exact ⟨allC_mem hL h.1, h.2⟩
end

theorem nth_mid {α : Type} [Inhabited α] {a b : List α} {x : α} {i : Int} (h : a.length = i.toNat) : nth (a ++ x :: b) i = x := by
  simp [nth, List.getD, ← h]
theorem set_mid {α : Type} {a b : List α} {x y : α} {i : Nat} (h : a.length = i) : (a ++ x :: b).set i y = a ++ y :: b := by
  subst h
  simp [List.set_append]

/-- On the way from code n to the next one: the places behind i are set back. -/
structure Odo (k : Nat) (s n i m : Int) (xs : List Int) : Prop where
  lo : -1 ≤ i
  hi : i < k
  pos : 0 ≤ m
  xs_ : xs = digs (i + 1).toNat s m ++ List.replicate (k - (i + 1).toNat) 0
  nx : digs k s (n + 1) = digs (i + 1).toNat s (m + 1) ++ List.replicate (k - (i + 1).toNat) 0
  num : n + 1 = (m + 1) * s ^ (k - (i + 1).toNat)
section
variable {k : Nat} {s n i m : Int} {xs : List Int}
theorem Odo.start (hn : 0 ≤ n) : Odo k s n ((k : Int) - 1) n (digs k s n) := by
  have e : ((k : Int) - 1 + 1).toNat = k := by omega
  exact ⟨by omega, by omega, hn, by simp [e], by simp [e], by simp [e]⟩
theorem Odo.len (h : Odo k s n i m xs) : xs.length = k := by
  have := h.hi
  have := h.lo
  rw [h.xs_]; simp [digs_len]; omega
theorem Odo.at (h : Odo k s n i m xs) (h0 : 0 ≤ i) : xs = digs i.toNat s (m / s) ++ (m % s) :: List.replicate (k - (i + 1).toNat) 0 := by
  have e : (i + 1).toNat = i.toNat + 1 := by omega
  have := h.xs_
  rw [e] at this ⊢
  simpa [digs] using this
theorem Odo.nth (h : Odo k s n i m xs) (h0 : 0 ≤ i) : nth xs i = m % s := by
  rw [h.at h0, nth_mid (digs_len _ _ _)]
theorem Odo.back (h : Odo k s n i m xs) (h0 : 0 ≤ i) (hs : 2 ≤ s) (hd : Go.Proofs.Ytldagbcceefcdaa.nth xs i = s - 1) : Odo k s n (i - 1) (m / s) (xs.set i.toNat 0) := by
  rw [h.nth h0] at hd
  have e : (i + 1).toNat = i.toNat + 1 := by omega
  have e2 : (i - 1 + 1).toNat = i.toNat := by omega
  have e3 : k - i.toNat = (k - (i.toNat + 1)) + 1 := by have := h.hi; omega
  have e4 : m + 1 = (m / s + 1) * s := by
    have := Int.mul_ediv_add_emod m s
    rw [Int.add_mul, Int.mul_comm (m / s) s]
    omega
  refine ⟨by omega, by have := h.hi; omega, Int.ediv_nonneg h.pos (by omega), ?_, ?_, ?_⟩
  · rw [h.at h0, set_mid (digs_len _ _ _), e2, e3, e, List.replicate_succ]
  · rw [h.nx, e, digs, e2, e3, List.replicate_succ]
    have h1 : (m + 1) / s = m / s + 1 := by rw [e4, Int.mul_ediv_cancel _ (by omega)]
    have h2 : (m + 1) % s = 0 := by rw [e4]; simp
    rw [h1, h2]; simp
  · rw [h.num, e, e2, e3, Int.pow_succ, e4, Int.mul_assoc, Int.mul_comm s]
theorem Odo.next (h : Odo k s n i m xs) (h0 : 0 ≤ i) (hs : 2 ≤ s) (hd : ¬ Go.Proofs.Ytldagbcceefcdaa.nth xs i = s - 1) : xs.set i.toNat (Go.Proofs.Ytldagbcceefcdaa.nth xs i + 1) = digs k s (n + 1) := by
  have hd' := hd
  rw [h.nth h0] at hd'
  have e : (i + 1).toNat = i.toNat + 1 := by omega
  rw [h.nth h0]
  conv => lhs; rw [h.at h0]
  rw [set_mid (digs_len _ _ _), h.nx, e, digs]
  have h1 := Int.mul_ediv_add_emod m s
  have h2 := Int.emod_nonneg m (show s ≠ 0 by omega)
  have h3 := Int.emod_lt_of_pos m (show 0 < s by omega)
  have h5 : (m + 1) / s = m / s ∧ (m + 1) % s = m % s + 1 := by
    rw [Int.ediv_emod_unique (by omega)]
    omega
  rw [h5.1, h5.2]
  simp
theorem Odo.start' {w : Int} (hk : (k : Int) = w) (hn : 0 ≤ n) : Odo k s n (w - 1) n (digs k s n) := by
  subst hk; exact Odo.start hn
theorem Odo.bd (h : Odo k s n i m xs) (h0 : 0 ≤ i) (hs : 2 ≤ s) : 0 ≤ Go.Proofs.Ytldagbcceefcdaa.nth xs i ∧ Go.Proofs.Ytldagbcceefcdaa.nth xs i < s := by
  rw [h.nth h0]
  exact ⟨Int.emod_nonneg m (by omega), Int.emod_lt_of_pos m (by omega)⟩
theorem Odo.more (h : Odo k s n i m xs) (h0 : 0 ≤ i) (hs : 2 ≤ s) (hd : ¬ Go.Proofs.Ytldagbcceefcdaa.nth xs i = s - 1) (hn : n < s ^ k) : n + 1 < s ^ k := by
  rcases Int.lt_or_eq_of_le (show n + 1 ≤ s ^ k by omega) with h1 | h1
  · exact h1
  · exfalso
    rw [h.nth h0] at hd
    have e : k = (i.toNat + 1) + (k - (i + 1).toNat) := by have := h.hi; omega
    have h2 := h.num
    rw [h1] at h2
    have h3 : s ^ k = s ^ (i.toNat + 1) * s ^ (k - (i + 1).toNat) := by rw [← Int.pow_add]; exact congrArg _ e
    rw [h3] at h2
    have hp : s ^ (k - (i + 1).toNat) ≠ 0 := by have := Int.pow_pos (n := s) (m := k - (i + 1).toNat) (by omega); omega
    have h4 := Int.eq_of_mul_eq_mul_right hp h2
    rw [Int.pow_succ] at h4
    have h5 : (m + 1) % s = 0 := by rw [← h4]; simp
    have h6 := Int.mul_ediv_add_emod m s
    have h7 := Int.mul_ediv_add_emod (m + 1) s
    have h8 := Int.emod_nonneg m (show s ≠ 0 by omega)
    have h9 := Int.emod_lt_of_pos m (show 0 < s by omega)
    have h10 : (m + 1) / s = m / s ∧ (m + 1) % s = m % s + 1 := by
      rw [Int.ediv_emod_unique (by omega)]
      omega
    omega
theorem manyC_pow {w s : Int} (h : 2 ≤ s) : ((manyC w s : Nat) : Int) = s ^ w.toNat := by
  unfold manyC
  rw [Int.natCast_pow]
  congr 1
  omega
theorem codeAt_zero (w s : Int) : codeAt w s 0 = List.replicate w.toNat 0 := digs_zero _ _
theorem allC_all {w s : Int} {n : Nat} (h : n = manyC w s) : (allC w s).take n = allC w s := List.take_of_length_le (by rw [allC_len]; omega)
theorem Odo.end_ (h : Odo k s n i m xs) (hi : i < 0) (hs : 2 ≤ s) (hn : n < s ^ k) : n + 1 = s ^ k := by
  have e : i = -1 := by have := h.lo; omega
  have h1 := h.num
  have h2 := h.pos
  subst e
  simp at h1
  have h3 : (0 : Int) ≤ m * s ^ k := Int.mul_nonneg h2 (Int.pow_nonneg (by omega))
  rw [Int.add_mul] at h1
  omega
end

end Go.Proofs.Ytldagbcceefcdaa
