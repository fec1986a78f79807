/- Plain laws on enumerations and readings. No program in sight. -/
import Derived.Test.YtldagbcceefcdaaAll
import Derived.Test.YtldagbcceefcdaaAnswers
namespace Go.Proofs.Ytldagbcceefcdaa
set_option linter.unusedVariables false
set_option linter.unusedSimpArgs false
open Go.RowKit

theorem pow_bd {s : Int} (h2 : 2 ≤ s) (h10 : s ≤ 10) : ∀ k : Nat, k ≤ 4 → 1 ≤ s ^ k ∧ s ^ k ≤ 10 ^ k
  | 0, _ => by simp
  | k + 1, hk => by
    have ih := pow_bd h2 h10 k (by omega)
    rw [Int.pow_succ, Int.pow_succ]
    constructor
    · calc (1 : Int) = 1 * 1 := by omega
        _ ≤ s ^ k * s := Int.mul_le_mul ih.1 (by omega) (by omega) (by omega)
    · exact Int.mul_le_mul ih.2 h10 (by omega) (by omega)
theorem pow_bd4 {s : Int} (h2 : 2 ≤ s) (h10 : s ≤ 10) {k : Nat} (hk : k ≤ 4) : 1 ≤ s ^ k ∧ s ^ k ≤ 10000 := by
  have h := pow_bd h2 h10 k hk
  have h4 : (10 : Int) ^ k ≤ 10 ^ 4 := by
    rcases (by omega : k = 0 ∨ k = 1 ∨ k = 2 ∨ k = 3 ∨ k = 4) with rfl | rfl | rfl | rfl | rfl <;> decide
  have : (10 : Int) ^ 4 = 10000 := by decide
  omega
theorem pow_next {s i : Int} (h : 0 ≤ i) : s ^ (i + 1).toNat = s ^ i.toNat * s := by
  have e : (i + 1).toNat = i.toNat + 1 := by omega
  rw [e, Int.pow_succ]

/-- A code that is filled in from its end. -/
structure Fill (k : Nat) (s n i m : Int) (xs : List Int) : Prop where
  lo : -1 ≤ i
  hi : i < k
  pos : 0 ≤ m ∧ m ≤ n
  ex : ∃ T, xs = List.replicate (i + 1).toNat 0 ++ T ∧ digs k s n = digs (i + 1).toNat s m ++ T
section
variable {k : Nat} {s n i m : Int} {xs : List Int}
theorem Fill.start {w : Int} (hk : (k : Int) = w) (hw : 0 ≤ w) (hn : 0 ≤ n) : Fill k s n (w - 1) n (List.replicate w.toNat 0) := by
  subst hk
  refine ⟨by omega, by omega, ⟨hn, Int.le_refl _⟩, [], ?_, ?_⟩ <;> simp
theorem Fill.len (h : Fill k s n i m xs) : xs.length = k := by
  obtain ⟨T, h1, h2⟩ := h.ex
  have := congrArg List.length h2
  simp [digs_len] at this
  rw [h1]; simp; omega
theorem Fill.step (h : Fill k s n i m xs) (h0 : 0 ≤ i) (hs : 2 ≤ s) : Fill k s n (i - 1) (m / s) (xs.set i.toNat (m % s)) := by
  obtain ⟨T, h1, h2⟩ := h.ex
  have e : (i + 1).toNat = i.toNat + 1 := by omega
  have e2 : (i - 1 + 1).toNat = i.toNat := by omega
  have hp := h.pos
  refine ⟨by omega, by have := h.hi; omega, ⟨Int.ediv_nonneg hp.1 (by omega), Int.le_trans (Int.ediv_le_self s hp.1) hp.2⟩, m % s :: T, ?_, ?_⟩
  · rw [h1, e, e2, List.replicate_succ', List.append_assoc]
    exact set_mid (by simp)
  · rw [h2, e, e2, digs]; simp
theorem Fill.end_ (h : Fill k s n i m xs) (hi : i < 0) : xs = digs k s n := by
  obtain ⟨T, h1, h2⟩ := h.ex
  have e : (i + 1).toNat = 0 := by have := h.lo; omega
  rw [h1, h2, e]; simp [digs]
theorem Fill.bd (h : Fill k s n i m xs) (h0 : 0 ≤ i) : 0 ≤ i ∧ i < xs.length := by
  have := h.len
  have := h.hi
  omega
end

/-- The readings among the first codes. -/
def readTo (w s : Int) (cs : List Clue) (n : Nat) : List (List Int) := ((allC w s).take n).filter (fitB cs)
section
variable {w s : Int} {cs : List Clue} {n : Nat}
theorem readTo_zero : readTo w s cs 0 = [] := by simp [readTo]
theorem readTo_yes (h : n < manyC w s) (hf : fitB cs (codeAt w s n) = true) : readTo w s cs (n + 1) = readTo w s cs n ++ [codeAt w s n] := by
  simp [readTo, allC_take h, List.filter_append, List.filter_cons, hf]
theorem readTo_no (h : n < manyC w s) (hf : fitB cs (codeAt w s n) = false) : readTo w s cs (n + 1) = readTo w s cs n := by
  simp [readTo, allC_take h, List.filter_append, List.filter_cons, hf]
theorem readTo_all (h : manyC w s ≤ n) : readTo w s cs n = readL w s cs := by
  unfold readTo
  rw [List.take_of_length_le (by rw [allC_len]; exact h)]; rfl
theorem readTo_len : (readTo w s cs n).length ≤ n := by
  have h1 := List.length_filter_le (fitB cs) ((allC w s).take n)
  have h2 := List.length_take_le n (allC w s)
  unfold readTo
  omega
end
theorem snd_len {α β : Type} {ps : List (α × β)} {L : List β} (h : ps.map (·.2) = L) : ps.length = L.length := by rw [← h]; simp
theorem snd_snoc {α β : Type} {ps : List (α × β)} {L : List β} {a : α} {x : β} (h : ps.map (·.2) = L) : (ps ++ [(a, x)]).map (·.2) = L ++ [x] := by simp [h]

/-- The first reading for which a clue does not hold. -/
def impL (w s : Int) (cs : List Clue) (c : Clue) : Option (List Int) := (readL w s cs).find? fun y => !holdsT c y
def impE (w s : Int) (cs : List Clue) (c : Clue) : Int := if cluesE w s cs = 0 then clueE w s c else cluesE w s cs
theorem imp_none {w s : Int} {cs : List Clue} {c : Clue} (h : ∀ y ∈ readL w s cs, holdsT c y = true) : impL w s cs c = none := by
  rw [impL, List.find?_eq_none]
  intro y hy; simp [h y hy]
theorem imp_some {w s : Int} {cs : List Clue} {c : Clue} {pre post : List (List Int)} {x : List Int} (hall : readL w s cs = pre ++ x :: post) (h : ∀ y ∈ pre, holdsT c y = true) (hx : holdsT c x = false) : impL w s cs c = some x := by
  rw [impL, hall, List.find?_append]
  have : pre.find? (fun y => !holdsT c y) = none := by
    rw [List.find?_eq_none]; intro y hy; simp [h y hy]
  simp [this, hx]
theorem clueE_clue {w s : Int} {c : Clue} (h : clueE w s c = 0) : clueB w s c = true := by
  unfold clueE at h; cases h1 : lockB w s <;> cases h3 : clueB w s c <;> simp_all
theorem all_snoc {α : Type} {p : α → Prop} {pre : List α} {x : α} (h : ∀ y ∈ pre, p y) (hx : p x) : ∀ y ∈ pre ++ [x], p y := by
  intro y hy
  simp at hy
  rcases hy with hy | rfl
  · exact h y hy
  · exact hx
/-- The last of a list. -/
def lastL (pre : List (List Int)) : List Int := pre.getLastD []
theorem lastL_snoc (pre : List (List Int)) (x : List Int) : lastL (pre ++ [x]) = x := by simp [lastL]
theorem split_take {all pre post : List (List Int)} {x : List Int} (h : all = pre ++ x :: post) : all.take (pre.length + 1) = pre ++ [x] := by
  rw [h, List.take_append, List.take_of_length_le (by omega)]; simp

theorem imp_at {w s : Int} {cs : List Clue} {c : Clue} {i : Int} (h0 : 0 ≤ i) (h1 : i < (readL w s cs).length) (hb : ∀ j : Int, 0 ≤ j → j < i → holdsT c (nth (readL w s cs) j) = true) (hx : holdsT c (nth (readL w s cs) i) = false) : impL w s cs c = some (nth (readL w s cs) i) := by
  have hlt : i.toNat < (readL w s cs).length := by omega
  have e : readL w s cs = (readL w s cs).take i.toNat ++ nth (readL w s cs) i :: (readL w s cs).drop (i.toNat + 1) := by
    have : nth (readL w s cs) i = (readL w s cs)[i.toNat] := by simp [nth, List.getD, hlt]
    rw [this]
    conv => lhs; rw [← List.take_append_drop i.toNat (readL w s cs), List.drop_eq_getElem_cons hlt]
  refine imp_some e (fun y hy => ?_) hx
  obtain ⟨k, hk, rfl⟩ := List.getElem_of_mem hy
  rw [List.length_take] at hk
  have hk2 : k < (readL w s cs).length := by omega
  have := hb k (by omega) (by omega)
  have e2 : nth (readL w s cs) (k : Int) = (readL w s cs)[k] := by simp [nth, List.getD, hk2]
  rw [e2] at this
  simpa using this
theorem imp_all {w s : Int} {cs : List Clue} {c : Clue} (hb : ∀ j : Int, 0 ≤ j → j < (readL w s cs).length → holdsT c (nth (readL w s cs) j) = true) : impL w s cs c = none := by
  refine imp_none fun y hy => ?_
  obtain ⟨i, h0, h1, rfl⟩ := mem_nth hy
  exact hb i h0 h1
theorem readL_nth {w s : Int} {cs : List Clue} (hL : lockB w s = true) {i : Int} (h0 : 0 ≤ i) (h1 : i < (readL w s cs).length) : codeB w s (nth (readL w s cs) i) = true := (readL_mem hL (nth_mem h0 h1)).1

def rdE (w s : Int) (cs : List Clue) (most : Int) : Int := if cluesE w s cs = 0 then (if within most 1 64 then 0 else 1) else cluesE w s cs
theorem take_short {α : Type} {xs : List α} {m : Int} (h : (xs.length : Int) ≤ m) : xs.take m.toNat = xs := List.take_of_length_le (by omega)
theorem nth_extG {α : Type} [Inhabited α] {xs ys : List α} (hl : xs.length = ys.length) (h : ∀ i : Int, 0 ≤ i → i < xs.length → nth xs i = nth ys i) : xs = ys := by
  apply List.ext_getElem hl
  intro i h1 h2
  have := h i (by omega) (by omega)
  simpa [nth, List.getD, h1, h2] using this
theorem nth_ne {α : Type} [Inhabited α] {xs ys : List α} {i : Int} (h : ¬ nth xs i = nth ys i) : ¬ xs = ys := fun e => h (by rw [e])

/-- Does wheel i show n in one of the codes. -/
def flag (w : Int) (L : List (List Int)) (i : Nat) (n : Nat) : Bool := decide ((i : Int) < w) && L.any fun y => decide (nth y i = n)
def flag2 (w : Int) (L : List (List Int)) (x : List Int) (m i n : Nat) : Bool := flag w L i n || (decide (i < m) && decide (nth x i = n))
theorem flag_any {w : Int} {L : List (List Int)} {i n : Int} (h0 : 0 ≤ i) (h1 : i < w) (hn : 0 ≤ n) : flag w L i.toNat n.toNat = L.any fun y => decide (nth y i = n) := by
  have e1 : ((i.toNat : Nat) : Int) = i := by omega
  have e2 : ((n.toNat : Nat) : Int) = n := by omega
  unfold flag
  rw [e1, e2, decide_eq_true h1, Bool.true_and]
/-- The cells of the table of flags, the first m wheels of x being gone through. -/
def shC (w : Int) (L : List (List Int)) (x : List Int) (m : Nat) : List Value := (List.range 40).map fun k : Nat => Value.bool (flag2 w L x m (k / 10) (k % 10))
theorem shC_len (w : Int) (L : List (List Int)) (x : List Int) (m : Nat) : (shC w L x m).length = 40 := by simp [shC]
theorem shC_nil (w : Int) : shC w [] [] 0 = List.replicate 40 (Value.bool false) := by
  have h : ∀ k : Nat, flag2 w [] [] 0 (k / 10) (k % 10) = false := fun k => by simp [flag2, flag]
  simp only [shC, h]
  rfl
theorem flag2_same {w : Int} {L : List (List Int)} {x : List Int} {m q r : Nat} (h : ¬ (q = m ∧ nth x (q : Int) = (r : Int))) : flag2 w L x m q r = flag2 w L x (m + 1) q r := by
  unfold flag2
  congr 1
  by_cases hlt : q < m
  · rw [decide_eq_true hlt, decide_eq_true (show q < m + 1 by omega)]
  · rw [decide_eq_false hlt]
    by_cases he : q = m
    · have h2 : ¬ nth x (q : Int) = (r : Int) := fun h3 => h ⟨he, h3⟩
      rw [decide_eq_false h2, Bool.and_false, Bool.and_false]
    · rw [decide_eq_false (show ¬ q < m + 1 by omega)]
theorem flag2_yes {w : Int} {L : List (List Int)} {x : List Int} {m q r : Nat} (h : q = m) (h2 : nth x (q : Int) = (r : Int)) : flag2 w L x (m + 1) q r = true := by
  unfold flag2
  rw [decide_eq_true h2, decide_eq_true (show q < m + 1 by omega)]
  simp
theorem shC_set {w : Int} {L : List (List Int)} {x : List Int} {i : Int} (h0 : 0 ≤ i) (h1 : i < 4) (hx : 0 ≤ nth x i ∧ nth x i < 10) :
    (shC w L x i.toNat).set (0 + i.toNat * 10 + (nth x i).toNat * 1) (.bool true) = shC w L x (i + 1).toNat := by
  have e : (i + 1).toNat = i.toNat + 1 := by omega
  have ei : ((i.toNat : Nat) : Int) = i := by omega
  rw [e]
  apply List.ext_getElem?
  intro k
  by_cases hk : k < 40
  · rw [List.getElem?_set]
    by_cases hq : 0 + i.toNat * 10 + (nth x i).toNat * 1 = k
    · have hd : k / 10 = i.toNat := by omega
      have hm : ((k % 10 : Nat) : Int) = nth x i := by omega
      rw [if_pos hq, if_pos (by rw [shC_len]; omega)]
      simp only [shC, List.getElem?_map, List.getElem?_range hk, Option.map_some]
      rw [flag2_yes hd (by rw [hd, ei, hm])]
    · rw [if_neg hq]
      simp only [shC, List.getElem?_map, List.getElem?_range hk, Option.map_some]
      rw [flag2_same]
      rintro ⟨hd, hm⟩
      rw [hd, ei] at hm
      omega
  · rw [List.getElem?_eq_none (by simp [shC]; omega), List.getElem?_eq_none (by simp [shC]; omega)]
theorem shC_zero {w : Int} {L : List (List Int)} (x : List Int) : shC w L x 0 = shC w L [] 0 := by
  have h : ∀ y q r, flag2 w L y 0 q r = flag w L q r := fun y q r => by simp [flag2]
  simp only [shC, h]
theorem shC_full {w : Int} {L : List (List Int)} {x : List Int} {m : Int} (h : m = w) (h0 : 0 ≤ w) : shC w L x m.toNat = shC w (L ++ [x]) [] 0 := by
  subst h
  unfold shC
  congr 1
  funext k
  congr 1
  generalize k / 10 = q
  generalize k % 10 = r
  simp only [flag2, flag, List.any_append, List.any_cons, List.any_nil, Bool.or_false, Nat.not_lt_zero, decide_false, Bool.false_and]
  by_cases hk : (q : Int) < m
  · rw [decide_eq_true hk, decide_eq_true (show q < m.toNat by omega)]; simp
  · rw [decide_eq_false hk, decide_eq_false (show ¬ q < m.toNat by omega)]; simp
/-- The cells of one row. -/
def shR (w : Int) (L : List (List Int)) (i : Nat) : List Value := (List.range 10).map fun n : Nat => Value.bool (flag w L i n)
theorem shC_row {w : Int} {L : List (List Int)} {i : Nat} (hi : i < 4) : ((shC w L [] 0).drop (0 + i * 10)).take 10 = shR w L i := by
  apply List.ext_getElem?
  intro k
  rw [List.getElem?_take]
  by_cases hk : k < 10
  · rw [if_pos hk, List.getElem?_drop]
    have h1 : 0 + i * 10 + k < 40 := by omega
    have h2 : (0 + i * 10 + k) / 10 = i := by omega
    have h3 : (0 + i * 10 + k) % 10 = k := by omega
    simp only [shC, shR, List.getElem?_map, List.getElem?_range h1, List.getElem?_range hk, Option.map_some, h2, h3]
    simp [flag2]
  · rw [if_neg hk, List.getElem?_eq_none (by simp [shR]; omega)]
theorem shR_at {w : Int} {L : List (List Int)} {i : Nat} {n : Int} (h0 : 0 ≤ n) (h1 : n < 10) : (shR w L i)[n.toNat]? = some (.bool (flag w L i n.toNat)) := by
  have : n.toNat < 10 := by omega
  simp [shR, this]
theorem shR_len (w : Int) (L : List (List Int)) (i : Nat) : (shR w L i).length = 10 := by simp [shR]
/-- The symbols below m that wheel i shows. -/
def rowTo (w : Int) (L : List (List Int)) (i : Nat) (m : Nat) : List Int := ((List.range m).filter fun n => flag w L i n).map Int.ofNat
theorem rowTo_zero (w : Int) (L : List (List Int)) (i : Nat) : rowTo w L i 0 = [] := by simp [rowTo]
theorem rowTo_yes {w : Int} {L : List (List Int)} {i : Nat} {n : Int} (h0 : 0 ≤ n) (h : flag w L i n.toNat = true) : rowTo w L i (n + 1).toNat = rowTo w L i n.toNat ++ [n] := by
  have e : (n + 1).toNat = n.toNat + 1 := by omega
  rw [e]
  simp [rowTo, List.range_succ, List.filter_append, List.filter_cons, h]
  omega
theorem rowTo_no {w : Int} {L : List (List Int)} {i : Nat} {n : Int} (h0 : 0 ≤ n) (h : flag w L i n.toNat = false) : rowTo w L i (n + 1).toNat = rowTo w L i n.toNat := by
  have e : (n + 1).toNat = n.toNat + 1 := by omega
  rw [e]
  simp [rowTo, List.range_succ, List.filter_append, List.filter_cons, h]
theorem rowTo_len (w : Int) (L : List (List Int)) (i m : Nat) : (rowTo w L i m).length ≤ m := by
  have := List.length_filter_le (fun n => flag w L i n) (List.range m)
  simpa [rowTo] using this
/-- All rows below i done, of row i what is below m. -/
def rowsTo (w : Int) (L : List (List Int)) (M : Nat) (i m : Nat) : List (List Int) := (List.range w.toNat).map fun k => if k < i then rowTo w L k M else if k = i then rowTo w L k m else []
theorem rowsTo_next {w : Int} {L : List (List Int)} {M i : Nat} : rowsTo w L M i M = rowsTo w L M (i + 1) 0 := by
  unfold rowsTo
  congr 1
  funext k
  by_cases h1 : k < i
  · rw [if_pos h1, if_pos (by omega)]
  · rw [if_neg h1]
    by_cases h2 : k = i
    · rw [if_pos h2, if_pos (by omega)]
    · rw [if_neg h2, if_neg (by omega), rowTo_zero]
      simp
theorem rowsTo_start {w : Int} {L : List (List Int)} {M : Nat} : rowsTo w L M 0 0 = List.replicate w.toNat [] := by
  apply List.ext_getElem?
  intro k
  by_cases hk : k < w.toNat
  · simp only [rowsTo, List.getElem?_map, List.getElem?_range hk, Option.map_some, List.getElem?_replicate, if_pos hk]
    simp [rowTo_zero]
  · rw [List.getElem?_eq_none (by simp [rowsTo]; omega), List.getElem?_eq_none (by simp; omega)]
theorem rowsTo_at {w : Int} {L : List (List Int)} {M i m : Nat} (hi : i < w.toNat) : (rowsTo w L M i m)[i]? = some (rowTo w L i m) := by
  simp [rowsTo, hi]
theorem rowsTo_set {w : Int} {L : List (List Int)} {M i m m' : Nat} (hi : i < w.toNat) : (rowsTo w L M i m).set i (rowTo w L i m') = rowsTo w L M i m' := by
  apply List.ext_getElem?
  intro k
  rw [List.getElem?_set]
  by_cases hk : k < w.toNat
  · by_cases h : i = k
    · subst h
      rw [if_pos rfl, if_pos (by simp [rowsTo, hk]), rowsTo_at hk]
    · rw [if_neg h]
      simp [rowsTo, hk, show ¬ k = i by omega]
  · rw [List.getElem?_eq_none (l := rowsTo w L M i m') (by simp [rowsTo]; omega)]
    rw [if_neg (by omega), List.getElem?_eq_none (by simp [rowsTo]; omega)]
theorem rowsTo_same {w : Int} {L : List (List Int)} {M i m m' : Nat} (h : rowTo w L i m' = rowTo w L i m) : rowsTo w L M i m' = rowsTo w L M i m := by
  unfold rowsTo
  congr 1
  funext k
  by_cases h2 : k = i
  · subst h2; simp [h]
  · simp [h2]
/-- What each wheel shows. -/
def showL (w s : Int) (L : List (List Int)) : List (List Int) := rowsTo w L s.toNat w.toNat 0
theorem rowTo_more {w s : Int} {L : List (List Int)} (hs : 0 ≤ s) (hL : ∀ y ∈ L, codeB w s y = true) (i : Nat) : ∀ d : Nat, rowTo w L i (s.toNat + d) = rowTo w L i s.toNat
  | 0 => rfl
  | d + 1 => by
    have ih := rowTo_more hs hL i d
    have hf : flag w L i (s.toNat + d) = false := by
      unfold flag
      by_cases hi : (i : Int) < w
      · simp only [hi, decide_true, Bool.true_and, List.any_eq_false, decide_eq_true_eq]
        intro y hy
        have h1 := code_of (hL y hy)
        have h2 := h1.2 _ (nth_mem (xs := y) (i := i) (by omega) (by omega))
        omega
      · simp [hi]
    have e : rowTo w L i (s.toNat + (d + 1)) = rowTo w L i (s.toNat + d) := by
      have e2 : s.toNat + (d + 1) = (s.toNat + d) + 1 := by omega
      rw [e2]
      simp [rowTo, List.range_succ, List.filter_append, List.filter_cons, hf]
    rw [e, ih]
theorem rows_ten {w s : Int} {L : List (List Int)} (hs : 0 ≤ s ∧ s ≤ 10) (hL : ∀ y ∈ L, codeB w s y = true) : rowsTo w L 10 w.toNat 0 = showL w s L := by
  unfold showL rowsTo
  apply List.map_congr_left
  intro k hk
  have hk' : k < w.toNat := by simpa using hk
  have := rowTo_more hs.1 hL k (10 - s.toNat)
  have e : s.toNat + (10 - s.toNat) = 10 := by omega
  rw [e] at this
  simp [hk', this]
theorem map_snd_set {α β : Type} {ps : List (α × β)} {L : List β} (h : ps.map (·.2) = L) (i : Nat) (a : α) (x : β) : (ps.set i (a, x)).map (·.2) = L.set i x := by rw [← h, List.map_set]
theorem map_fst_set {α β : Type} (ps : List (α × β)) (i : Nat) (a : α) (x : β) : (ps.set i (a, x)).map (·.1) = (ps.map (·.1)).set i a := by rw [List.map_set]
theorem snd_at {α β : Type} {ps : List (α × β)} {L : List β} (h : ps.map (·.2) = L) {i : Nat} {x : β} (hx : L[i]? = some x) : ∃ a, ps[i]? = some (a, x) := by
  rw [← h, List.getElem?_map] at hx
  cases hp : ps[i]? with
  | none => rw [hp] at hx; simp at hx
  | some p => rw [hp] at hx; simp at hx; subst hx; exact ⟨p.1, rfl⟩

end Go.Proofs.Ytldagbcceefcdaa
