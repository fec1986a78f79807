/- Codes, clues and readings as plain functions. No program in sight. -/
import Derived.Test.YtldagbcceefcdaaData
namespace Go.Proofs.Ytldagbcceefcdaa
set_option linter.unusedVariables false
set_option linter.unusedSimpArgs false
open Go.RowKit

structure Clue where
  k : Int
  a : Int
  b : Int
  n : Int
  m : Int
  g : List Int
  nt : Bool
  deriving DecidableEq
instance : Inhabited Clue := ⟨⟨0, 0, 0, 0, 0, [], false⟩⟩

def within (n lo hi : Int) : Bool := decide (lo ≤ n) && decide (n ≤ hi)
def lockB (w s : Int) : Bool := within w 1 4 && within s 2 10
def lockE (w s : Int) : Int := if lockB w s then 0 else 10
def codeB (w s : Int) (xs : List Int) : Bool := decide ((xs.length : Int) = w) && xs.all fun x => within x 0 (s - 1)
def codeE (w s : Int) (xs : List Int) : Int := if lockB w s then if codeB w s xs then 0 else 12 else 10

/-- How many places hold the same in both. -/
def rightN : List Int → List Int → Int
  | x :: xs, y :: ys => (if x = y then 1 else 0) + rightN xs ys
  | _, _ => 0
def cnt (xs : List Int) (s : Int) : Int := ((xs.filter fun x => decide (x = s)).length : Int)
def commonN (xs ys : List Int) : Nat → Int
  | 0 => 0
  | n + 1 => commonN xs ys n + min (cnt xs n) (cnt ys n)

theorem lock_of {w s : Int} (h : lockB w s = true) : 1 ≤ w ∧ w ≤ 4 ∧ 2 ≤ s ∧ s ≤ 10 := by
  simp [lockB, within] at h; omega
theorem code_of {w s : Int} {xs : List Int} (h : codeB w s xs = true) : (xs.length : Int) = w ∧ ∀ x ∈ xs, 0 ≤ x ∧ x ≤ s - 1 := by
  simp [codeB, within] at h; exact h
theorem code_nth {w s : Int} {xs : List Int} (h : codeB w s xs = true) {i : Int} (h0 : 0 ≤ i) (h1 : i < xs.length) : 0 ≤ nth xs i ∧ nth xs i ≤ s - 1 := (code_of h).2 _ (nth_mem h0 h1)

theorem cnt_nil (s : Int) : cnt [] s = 0 := rfl
theorem cnt_snoc (xs : List Int) (y s : Int) : cnt (xs ++ [y]) s = cnt xs s + if y = s then 1 else 0 := by
  unfold cnt
  by_cases h : y = s <;> simp [List.filter_append, List.filter_cons, h]
theorem cnt_le (xs : List Int) (s : Int) : 0 ≤ cnt xs s ∧ cnt xs s ≤ xs.length := by
  unfold cnt
  have := List.length_filter_le (fun x => decide (x = s)) xs
  omega
/-- The first places, one more. -/
theorem take_snocI {α : Type} [Inhabited α] (xs : List α) {i : Int} (h0 : 0 ≤ i) (h1 : i < xs.length) : xs.take (i + 1).toNat = xs.take i.toNat ++ [nth xs i] := by
  have e : (i + 1).toNat = i.toNat + 1 := by omega
  have hlt : i.toNat < xs.length := by omega
  rw [e, List.take_succ_eq_append_getElem hlt]
  simp [nth, List.getD, hlt]
theorem take_all {α : Type} (xs : List α) {i : Int} (h : xs.length ≤ i) : xs.take i.toNat = xs := List.take_of_length_le (by omega)
theorem rightN_snoc : ∀ (xs ys : List Int) (x y : Int), xs.length = ys.length → rightN (xs ++ [x]) (ys ++ [y]) = rightN xs ys + if x = y then 1 else 0
  | [], [], x, y, _ => by simp [rightN]
  | a :: xs, b :: ys, x, y, h => by
    simp only [List.cons_append, rightN]
    rw [rightN_snoc xs ys x y (by simpa using h)]
    omega
  | [], _ :: _, _, _, h => by simp at h
  | _ :: _, [], _, _, h => by simp at h
theorem rightN_le : ∀ (xs ys : List Int), 0 ≤ rightN xs ys ∧ rightN xs ys ≤ xs.length
  | [], _ => by simp [rightN]
  | _ :: _, [] => by simp [rightN]; omega
  | x :: xs, y :: ys => by
    have := rightN_le xs ys
    simp only [rightN, List.length_cons]
    split <;> omega
theorem rightN_take (xs ys : List Int) (hl : xs.length = ys.length) {i : Int} (h0 : 0 ≤ i) (h1 : i < xs.length) :
    rightN (xs.take (i + 1).toNat) (ys.take (i + 1).toNat) = rightN (xs.take i.toNat) (ys.take i.toNat) + if nth xs i = nth ys i then 1 else 0 := by
  rw [take_snocI xs h0 h1, take_snocI ys h0 (by omega), rightN_snoc _ _ _ _ (by simp; omega)]
theorem commonN_bd (xs ys : List Int) : ∀ n : Nat, 0 ≤ commonN xs ys n ∧ commonN xs ys n ≤ n * xs.length
  | 0 => by simp [commonN]
  | n + 1 => by
    have h := commonN_bd xs ys n
    have h1 := cnt_le xs n
    have h2 := cnt_le ys n
    simp only [commonN]
    have e : ((n + 1 : Nat) : Int) * (xs.length : Int) = (n : Int) * xs.length + xs.length := by rw [Int.natCast_succ, Int.add_mul, Int.one_mul]
    omega
theorem codeB_all {w s : Int} {xs : List Int} (hl : (xs.length : Int) = w) (h : ∀ j : Int, 0 ≤ j → j < xs.length → within (nth xs j) 0 (s - 1) = true) : codeB w s xs = true := by
  unfold codeB
  simp only [hl, decide_true, Bool.true_and, List.all_eq_true]
  intro x hx
  obtain ⟨i, h0, h1, rfl⟩ := mem_nth hx
  exact h i h0 h1
theorem codeB_len {w s : Int} {xs : List Int} (h : ¬ (xs.length : Int) = w) : codeB w s xs = false := by simp [codeB, h]
theorem codeB_bad {w s : Int} {xs : List Int} {i : Int} (h0 : 0 ≤ i) (h1 : i < xs.length) (h : within (nth xs i) 0 (s - 1) = false) : codeB w s xs = false := by
  cases hb : codeB w s xs with
  | false => rfl
  | true =>
    have := code_nth hb h0 h1
    simp [within] at h
    omega

/-- The cells of an array that counts symbols. -/
def tally (xs : List Int) : List Value := (List.range 10).map fun k : Nat => Value.int .i64 (cnt xs (k : Int))
theorem tally_len (xs : List Int) : (tally xs).length = 10 := by simp [tally]
theorem tally_nil : tally [] = List.replicate 10 (Value.int .i64 0) := rfl
theorem tally_at {xs : List Int} {y : Int} (h0 : 0 ≤ y) (h1 : y < 10) : (tally xs)[0 + y.toNat * 1]? = some (.int .i64 (cnt xs y)) := by
  have : y.toNat < 10 := by omega
  have e : ((y.toNat : Nat) : Int) = y := by omega
  simp [tally, this, e]
theorem tally_set {xs : List Int} {y : Int} (h0 : 0 ≤ y) (h1 : y < 10) : (tally xs).set (0 + y.toNat * 1) (.int .i64 (cnt xs y + 1)) = tally (xs ++ [y]) := by
  apply List.ext_getElem?
  intro k
  by_cases hk : k < 10
  · rw [List.getElem?_set]
    by_cases e : 0 + y.toNat * 1 = k
    · have e2 : (k : Int) = y := by omega
      rw [if_pos e, if_pos (by rw [tally_len]; omega)]
      simp [tally, hk, cnt_snoc, e2]
    · have e2 : ¬ y = (k : Int) := by omega
      rw [if_neg e]
      simp [tally, hk, cnt_snoc, e2]
  · rw [List.getElem?_eq_none (by simp [tally]; omega), List.getElem?_eq_none (by simp [tally]; omega)]
end Go.Proofs.Ytldagbcceefcdaa
