/- Plain laws on enumerations and readings. No program in sight. -/
import Derived.Test.YtldagbcceefcdaaAll
import Derived.Test.YtldagbcceefcdaaAnswers
namespace Go.Proofs.Ytldagbcceefcdaa
set_option linter.unusedVariables false
set_option linter.unusedSimpArgs false
open Go.RowKit

theorem pow_bd {s : Int} (h2 : 2 ≤ s) (h10 : s ≤ 10) : ∀ k : Nat, k ≤ 4 → 1 ≤ s ^ k ∧ s ^ k ≤ 10 ^ k
  | 0, _ => by simp
  | k + 1, hk => by
    have ih := pow_bd h2 h10 k (by omega)
    rw [Int.pow_succ, Int.pow_succ]
    constructor
    · calc (1 : Int) = 1 * 1 := by omega
        _ ≤ s ^ k * s := Int.mul_le_mul ih.1 (by omega) (by omega) (by omega)
    · exact Int.mul_le_mul ih.2 h10 (by omega) (by omega)
theorem pow_bd4 {s : Int} (h2 : 2 ≤ s) (h10 : s ≤ 10) {k : Nat} (hk : k ≤ 4) : 1 ≤ s ^ k ∧ s ^ k ≤ 10000 := by
  have h := pow_bd h2 h10 k hk
  have h4 : (10 : Int) ^ k ≤ 10 ^ 4 := by
    rcases (by omega : k = 0 ∨ k = 1 ∨ k = 2 ∨ k = 3 ∨ k = 4) with rfl | rfl | rfl | rfl | rfl <;> decide
  have : (10 : Int) ^ 4 = 10000 := by decide
  omega
theorem pow_next {s i : Int} (h : 0 ≤ i) : s ^ (i + 1).toNat = s ^ i.toNat * s := by
  have e : (i + 1).toNat = i.toNat + 1 := by omega
  rw [e, Int.pow_succ]

/-- A code that is filled in from its end. -/
structure Fill (k : Nat) (s n i m : Int) (xs : List Int) : Prop where
  lo : -1 ≤ i
  hi : i < k
  pos : 0 ≤ m ∧ m ≤ n
  ex : ∃ T, xs = List.replicate (i + 1).toNat 0 ++ T ∧ digs k s n = digs (i + 1).toNat s m ++ T
section
variable {k : Nat} {s n i m : Int} {xs : List Int}
theorem Fill.start {w : Int} (hk : (k : Int) = w) (hw : 0 ≤ w) (hn : 0 ≤ n) : Fill k s n (w - 1) n (List.replicate w.toNat 0) := by
  subst hk
  refine ⟨by omega, by omega, ⟨hn, Int.le_refl _⟩, [], ?_, ?_⟩ <;> simp
theorem Fill.len (h : Fill k s n i m xs) : xs.length = k := by
  obtain ⟨T, h1, h2⟩ := h.ex
  have := congrArg List.length h2
  simp [digs_len] at this
  rw [h1]; simp; omega
theorem Fill.step (h : Fill k s n i m xs) (h0 : 0 ≤ i) (hs : 2 ≤ s) : Fill k s n (i - 1) (m / s) (xs.set i.toNat (m % s)) := by
  obtain ⟨T, h1, h2⟩ := h.ex
  have e : (i + 1).toNat = i.toNat + 1 := by omega
  have e2 : (i - 1 + 1).toNat = i.toNat := by omega
  have hp := h.pos
  refine ⟨by omega, by have := h.hi; omega, ⟨Int.ediv_nonneg hp.1 (by omega), Int.le_trans (Int.ediv_le_self s hp.1) hp.2⟩, m % s :: T, ?_, ?_⟩
  · rw [h1, e, e2, List.replicate_succ', List.append_assoc]
    exact set_mid (by simp)
  · rw [h2, e, e2, digs]; simp
theorem Fill.end_ (h : Fill k s n i m xs) (hi : i < 0) : xs = digs k s n := by
  obtain ⟨T, h1, h2⟩ := h.ex
  have e : (i + 1).toNat = 0 := by have := h.lo; omega
  rw [h1, h2, e]; simp [digs]
theorem Fill.bd (h : Fill k s n i m xs) (h0 : 0 ≤ i) : 0 ≤ i ∧ i < xs.length := by
  have := h.len
  have := h.hi
  omega
end

/-- The readings among the first codes. -/
def readTo (w s : Int) (cs : List Clue) (n : Nat) : List (List Int) := ((allC w s).take n).filter (fitB cs)
section
variable {w s : Int} {cs : List Clue} {n : Nat}
theorem readTo_zero : readTo w s cs 0 = [] := by simp [readTo]
theorem readTo_yes (h : n < manyC w s) (hf : fitB cs (codeAt w s n) = true) : readTo w s cs (n + 1) = readTo w s cs n ++ [codeAt w s n] := by
  simp [readTo, allC_take h, List.filter_append, List.filter_cons, hf]
theorem readTo_no (h : n < manyC w s) (hf : fitB cs (codeAt w s n) = false) : readTo w s cs (n + 1) = readTo w s cs n := by
  simp [readTo, allC_take h, List.filter_append, List.filter_cons, hf]
theorem readTo_all (h : manyC w s ≤ n) : readTo w s cs n = readL w s cs := by
  unfold readTo
  rw [List.take_of_length_le (by rw [allC_len]; exact h)]; rfl
theorem readTo_len : (readTo w s cs n).length ≤ n := by
  have h1 := List.length_filter_le (fitB cs) ((allC w s).take n)
  have h2 := List.length_take_le n (allC w s)
  unfold readTo
  omega
end
theorem snd_len {α β : Type} {ps : List (α × β)} {L : List β} (h : ps.map (·.2) = L) : ps.length = L.length := by rw [← h]; simp
theorem snd_snoc {α β : Type} {ps : List (α × β)} {L : List β} {a : α} {x : β} (h : ps.map (·.2) = L) : (ps ++ [(a, x)]).map (·.2) = L ++ [x] := by simp [h]

/-- The first reading for which a clue does not hold. -/
def impL (w s : Int) (cs : List Clue) (c : Clue) : Option (List Int) := (readL w s cs).find? fun y => !holdsT c y
def impE (w s : Int) (cs : List Clue) (c : Clue) : Int := if cluesE w s cs = 0 then clueE w s c else cluesE w s cs
theorem imp_none {w s : Int} {cs : List Clue} {c : Clue} (h : ∀ y ∈ readL w s cs, holdsT c y = true) : impL w s cs c = none := by
  rw [impL, List.find?_eq_none]
  intro y hy; simp [h y hy]
theorem imp_some {w s : Int} {cs : List Clue} {c : Clue} {pre post : List (List Int)} {x : List Int} (hall : readL w s cs = pre ++ x :: post) (h : ∀ y ∈ pre, holdsT c y = true) (hx : holdsT c x = false) : impL w s cs c = some x := by
  rw [impL, hall, List.find?_append]
  have : pre.find? (fun y => !holdsT c y) = none := by
    rw [List.find?_eq_none]; intro y hy; simp [h y hy]
  simp [this, hx]
theorem clueE_clue {w s : Int} {c : Clue} (h : clueE w s c = 0) : clueB w s c = true := by
  unfold clueE at h; cases h1 : lockB w s <;> cases h3 : clueB w s c <;> simp_all
theorem all_snoc {α : Type} {p : α → Prop} {pre : List α} {x : α} (h : ∀ y ∈ pre, p y) (hx : p x) : ∀ y ∈ pre ++ [x], p y := by
  intro y hy
  simp at hy
  rcases hy with hy | rfl
  · exact h y hy
  · exact hx
/-- The last of a list. -/
def lastL (pre : List (List Int)) : List Int := pre.getLastD []
theorem lastL_snoc (pre : List (List Int)) (x : List Int) : lastL (pre ++ [x]) = x := by simp [lastL]
theorem split_take {all pre post : List (List Int)} {x : List Int} (h : all = pre ++ x :: post) : all.take (pre.length + 1) = pre ++ [x] := by
  rw [h, List.take_append, List.take_of_length_le (by omega)]; simp

theorem imp_at {w s : Int} {cs : List Clue} {c : Clue} {i : Int} (h0 : 0 ≤ i) (h1 : i < (readL w s cs).length) (hb : ∀ j : Int, 0 ≤ j → j < i → holdsT c (nth (readL w s cs) j) = true) (hx : holdsT c (nth (readL w s cs) i) = false) : impL w s cs c = some (nth (readL w s cs) i) := by
  have hlt : i.toNat < (readL w s cs).length := by omega
  have e : readL w s cs = (readL w s cs).take i.toNat ++ nth (readL w s cs) i :: (readL w s cs).drop (i.toNat + 1) := by
    have : nth (readL w s cs) i = (readL w s cs)[i.toNat] := by simp [nth, List.getD, hlt]
    rw [this]
    conv => lhs; rw [← List.take_append_drop i.toNat (readL w s cs), List.drop_eq_getElem_cons hlt]
  refine imp_some e (fun y hy => ?_) hx
  obtain ⟨k, hk, rfl⟩ := List.getElem_of_mem hy
  rw [List.length_take] at hk
  have hk2 : k < (readL w s cs).length := by omega
  have := hb k (by omega) (by omega)
  have e2 : nth (readL w s cs) (k : Int) = (readL w s cs)[k] := by simp [nth, List.getD, hk2]
  rw [e2] at this
  simpa using this
theorem imp_all {w s : Int} {cs : List Clue} {c : Clue} (hb : ∀ j : Int, 0 ≤ j → j < (readL w s cs).length → holdsT c (nth (readL w s cs) j) = true) : impL w s cs c = none := by
  refine imp_none fun y hy => ?_
  obtain ⟨i, h0, h1, rfl⟩ := mem_nth hy
  exact hb i h0 h1
theorem readL_nth {w s : Int} {cs : List Clue} (hL : lockB w s = true) {i : Int} (h0 : 0 ≤ i) (h1 : i < (readL w s cs).length) : codeB w s (nth (readL w s cs) i) = true := (readL_mem hL (nth_mem h0 h1)).1

end Go.Proofs.Ytldagbcceefcdaa
