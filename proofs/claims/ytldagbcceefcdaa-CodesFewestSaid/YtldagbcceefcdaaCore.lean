import Derived.Test.YtldagbcceefcdaaClue
import Derived.Test.YtldagbcceefcdaaRo
/- part Plain -/
/- Plain laws on enumerations and readings. No program in sight. -/
namespace Go.Proofs.Ytldagbcceefcdaa
set_option linter.unusedVariables false
set_option linter.unusedSimpArgs false
open Go.RowKit

theorem pow_bd {s : Int} (h2 : 2 ≤ s) (h10 : s ≤ 10) : ∀ k : Nat, k ≤ 4 → 1 ≤ s ^ k ∧ s ^ k ≤ 10 ^ k
  | 0, _ => by simp
  | k + 1, hk => by
    have ih := pow_bd h2 h10 k (by omega)
    rw [Int.pow_succ, Int.pow_succ]
    constructor
    · calc (1 : Int) = 1 * 1 := by omega
        _ ≤ s ^ k * s := Int.mul_le_mul ih.1 (by omega) (by omega) (by omega)
    · exact Int.mul_le_mul ih.2 h10 (by omega) (by omega)
theorem pow_bd4 {s : Int} (h2 : 2 ≤ s) (h10 : s ≤ 10) {k : Nat} (hk : k ≤ 4) : 1 ≤ s ^ k ∧ s ^ k ≤ 10000 := by
  have h := pow_bd h2 h10 k hk
  have h4 : (10 : Int) ^ k ≤ 10 ^ 4 := by
    rcases (by omega : k = 0 ∨ k = 1 ∨ k = 2 ∨ k = 3 ∨ k = 4) with rfl | rfl | rfl | rfl | rfl <;> decide
  have : (10 : Int) ^ 4 = 10000 := by decide
  omega
theorem pow_next {s i : Int} (h : 0 ≤ i) : s ^ (i + 1).toNat = s ^ i.toNat * s := by
  have e : (i + 1).toNat = i.toNat + 1 := by omega
  rw [e, Int.pow_succ]

/-- A code that is filled in from its end. -/
structure Fill (k : Nat) (s n i m : Int) (xs : List Int) : Prop where
  lo : -1 ≤ i
  hi : i < k
  pos : 0 ≤ m ∧ m ≤ n
  ex : ∃ T, xs = List.replicate (i + 1).toNat 0 ++ T ∧ digs k s n = digs (i + 1).toNat s m ++ T
section
variable {k : Nat} {s n i m : Int} {xs : List Int}
theorem Fill.start {w : Int} (hk : (k : Int) = w) (hw : 0 ≤ w) (hn : 0 ≤ n) : Fill k s n (w - 1) n (List.replicate w.toNat 0) := by
  subst hk
  refine ⟨by omega, by omega, ⟨hn, Int.le_refl _⟩, [], ?_, ?_⟩ <;> simp
theorem Fill.len (h : Fill k s n i m xs) : xs.length = k := by
  obtain ⟨T, h1, h2⟩ := h.ex
  have := congrArg List.length h2
  simp [digs_len] at this
  rw [h1]; simp; omega
theorem Fill.step (h : Fill k s n i m xs) (h0 : 0 ≤ i) (hs : 2 ≤ s) : Fill k s n (i - 1) (m / s) (xs.set i.toNat (m % s)) := by
  obtain ⟨T, h1, h2⟩ := h.ex
  have e : (i + 1).toNat = i.toNat + 1 := by omega
  have e2 : (i - 1 + 1).toNat = i.toNat := by omega
  have hp := h.pos
  refine ⟨by omega, by have := h.hi; omega, ⟨Int.ediv_nonneg hp.1 (by omega), Int.le_trans (Int.ediv_le_self s hp.1) hp.2⟩, m % s :: T, ?_, ?_⟩
  · rw [h1, e, e2, List.replicate_succ', List.append_assoc]
    exact set_mid (by simp)
  · rw [h2, e, e2, digs]; simp
theorem Fill.end_ (h : Fill k s n i m xs) (hi : i < 0) : xs = digs k s n := by
  obtain ⟨T, h1, h2⟩ := h.ex
  have e : (i + 1).toNat = 0 := by have := h.lo; omega
  rw [h1, h2, e]; simp [digs]
theorem Fill.bd (h : Fill k s n i m xs) (h0 : 0 ≤ i) : 0 ≤ i ∧ i < xs.length := by
  have := h.len
  have := h.hi
  omega
end

/-- The readings among the first codes. -/
def readTo (w s : Int) (cs : List Clue) (n : Nat) : List (List Int) := ((allC w s).take n).filter (fitB cs)
section
variable {w s : Int} {cs : List Clue} {n : Nat}
theorem readTo_zero : readTo w s cs 0 = [] := by simp [readTo]
theorem readTo_yes (h : n < manyC w s) (hf : fitB cs (codeAt w s n) = true) : readTo w s cs (n + 1) = readTo w s cs n ++ [codeAt w s n] := by
  simp [readTo, allC_take h, List.filter_append, List.filter_cons, hf]
theorem readTo_no (h : n < manyC w s) (hf : fitB cs (codeAt w s n) = false) : readTo w s cs (n + 1) = readTo w s cs n := by
  simp [readTo, allC_take h, List.filter_append, List.filter_cons, hf]
theorem readTo_all (h : manyC w s ≤ n) : readTo w s cs n = readL w s cs := by
  unfold readTo
  rw [List.take_of_length_le (by rw [allC_len]; exact h)]; rfl
theorem readTo_len : (readTo w s cs n).length ≤ n := by
  have h1 := List.length_filter_le (fitB cs) ((allC w s).take n)
  have h2 := List.length_take_le n (allC w s)
  unfold readTo
  omega
end
theorem snd_len {α β : Type} {ps : List (α × β)} {L : List β} (h : ps.map (·.2) = L) : ps.length = L.length := by rw [← h]; simp
theorem snd_snoc {α β : Type} {ps : List (α × β)} {L : List β} {a : α} {x : β} (h : ps.map (·.2) = L) : (ps ++ [(a, x)]).map (·.2) = L ++ [x] := by simp [h]

/-- The first reading for which a clue does not hold. -/
def impL (w s : Int) (cs : List Clue) (c : Clue) : Option (List Int) := (readL w s cs).find? fun y => !holdsT c y
def impE (w s : Int) (cs : List Clue) (c : Clue) : Int := if cluesE w s cs = 0 then clueE w s c else cluesE w s cs
theorem imp_none {w s : Int} {cs : List Clue} {c : Clue} (h : ∀ y ∈ readL w s cs, holdsT c y = true) : impL w s cs c = none := by
  rw [impL, List.find?_eq_none]
  intro y hy; simp [h y hy]
theorem imp_some {w s : Int} {cs : List Clue} {c : Clue} {pre post : List (List Int)} {x : List Int} (hall : readL w s cs = pre ++ x :: post) (h : ∀ y ∈ pre, holdsT c y = true) (hx : holdsT c x = false) : impL w s cs c = some x := by
  rw [impL, hall, List.find?_append]
  have : pre.find? (fun y => !holdsT c y) = none := by
    rw [List.find?_eq_none]; intro y hy; simp [h y hy]
  simp [this, hx]
theorem clueE_clue {w s : Int} {c : Clue} (h : clueE w s c = 0) : clueB w s c = true := by
  unfold clueE at h; cases h1 : lockB w s <;> cases h3 : clueB w s c <;> simp_all
theorem all_snoc {α : Type} {p : α → Prop} {pre : List α} {x : α} (h : ∀ y ∈ pre, p y) (hx : p x) : ∀ y ∈ pre ++ [x], p y := by
  intro y hy
  simp at hy
  rcases hy with hy | rfl
  · exact h y hy
  · exact hx
/-- The last of a list. -/
def lastL (pre : List (List Int)) : List Int := pre.getLastD []
theorem lastL_snoc (pre : List (List Int)) (x : List Int) : lastL (pre ++ [x]) = x := by simp [lastL]
theorem split_take {all pre post : List (List Int)} {x : List Int} (h : all = pre ++ x :: post) : all.take (pre.length + 1) = pre ++ [x] := by
  rw [h, List.take_append, List.take_of_length_le (by omega)]; simp

theorem imp_at {w s : Int} {cs : List Clue} {c : Clue} {i : Int} (h0 : 0 ≤ i) (h1 : i < (readL w s cs).length) (hb : ∀ j : Int, 0 ≤ j → j < i → holdsT c (nth (readL w s cs) j) = true) (hx : holdsT c (nth (readL w s cs) i) = false) : impL w s cs c = some (nth (readL w s cs) i) := by
  have hlt : i.toNat < (readL w s cs).length := by omega
  have e : readL w s cs = (readL w s cs).take i.toNat ++ nth (readL w s cs) i :: (readL w s cs).drop (i.toNat + 1) := by
    have : nth (readL w s cs) i = (readL w s cs)[i.toNat] := by simp [nth, List.getD, hlt]
    rw [this]
    conv => lhs; rw [← List.take_append_drop i.toNat (readL w s cs), List.drop_eq_getElem_cons hlt]
  refine imp_some e (fun y hy => ?_) hx
  obtain ⟨k, hk, rfl⟩ := List.getElem_of_mem hy
  rw [List.length_take] at hk
  have hk2 : k < (readL w s cs).length := by omega
  have := hb k (by omega) (by omega)
  have e2 : nth (readL w s cs) (k : Int) = (readL w s cs)[k] := by simp [nth, List.getD, hk2]
  rw [e2] at this
  simpa using this
theorem imp_all {w s : Int} {cs : List Clue} {c : Clue} (hb : ∀ j : Int, 0 ≤ j → j < (readL w s cs).length → holdsT c (nth (readL w s cs) j) = true) : impL w s cs c = none := by
  refine imp_none fun y hy => ?_
  obtain ⟨i, h0, h1, rfl⟩ := mem_nth hy
  exact hb i h0 h1
theorem readL_nth {w s : Int} {cs : List Clue} (hL : lockB w s = true) {i : Int} (h0 : 0 ≤ i) (h1 : i < (readL w s cs).length) : codeB w s (nth (readL w s cs) i) = true := (readL_mem hL (nth_mem h0 h1)).1

def rdE (w s : Int) (cs : List Clue) (most : Int) : Int := if cluesE w s cs = 0 then (if within most 1 64 then 0 else 1) else cluesE w s cs
theorem take_short {α : Type} {xs : List α} {m : Int} (h : (xs.length : Int) ≤ m) : xs.take m.toNat = xs := List.take_of_length_le (by omega)
theorem nth_extG {α : Type} [Inhabited α] {xs ys : List α} (hl : xs.length = ys.length) (h : ∀ i : Int, 0 ≤ i → i < xs.length → nth xs i = nth ys i) : xs = ys := by
  apply List.ext_getElem hl
  intro i h1 h2
  have := h i (by omega) (by omega)
  simpa [nth, List.getD, h1, h2] using this
theorem nth_ne {α : Type} [Inhabited α] {xs ys : List α} {i : Int} (h : ¬ nth xs i = nth ys i) : ¬ xs = ys := fun e => h (by rw [e])

/-- Does wheel i show n in one of the codes. -/
def flag (w : Int) (L : List (List Int)) (i : Nat) (n : Nat) : Bool := decide ((i : Int) < w) && L.any fun y => decide (nth y i = n)
def flag2 (w : Int) (L : List (List Int)) (x : List Int) (m i n : Nat) : Bool := flag w L i n || (decide (i < m) && decide (nth x i = n))
theorem flag_any {w : Int} {L : List (List Int)} {i n : Int} (h0 : 0 ≤ i) (h1 : i < w) (hn : 0 ≤ n) : flag w L i.toNat n.toNat = L.any fun y => decide (nth y i = n) := by
  have e1 : ((i.toNat : Nat) : Int) = i := by omega
  have e2 : ((n.toNat : Nat) : Int) = n := by omega
  unfold flag
  rw [e1, e2, decide_eq_true h1, Bool.true_and]
/-- The cells of the table of flags, the first m wheels of x being gone through. -/
def shC (w : Int) (L : List (List Int)) (x : List Int) (m : Nat) : List Value := (List.range 40).map fun k : Nat => Value.bool (flag2 w L x m (k / 10) (k % 10))
theorem shC_len (w : Int) (L : List (List Int)) (x : List Int) (m : Nat) : (shC w L x m).length = 40 := by simp [shC]
theorem shC_nil (w : Int) : shC w [] [] 0 = List.replicate 40 (Value.bool false) := by
  have h : ∀ k : Nat, flag2 w [] [] 0 (k / 10) (k % 10) = false := fun k => by simp [flag2, flag]
  simp only [shC, h]
  rfl
theorem flag2_same {w : Int} {L : List (List Int)} {x : List Int} {m q r : Nat} (h : ¬ (q = m ∧ nth x (q : Int) = (r : Int))) : flag2 w L x m q r = flag2 w L x (m + 1) q r := by
  unfold flag2
  congr 1
  by_cases hlt : q < m
  · rw [decide_eq_true hlt, decide_eq_true (show q < m + 1 by omega)]
  · rw [decide_eq_false hlt]
    by_cases he : q = m
    · have h2 : ¬ nth x (q : Int) = (r : Int) := fun h3 => h ⟨he, h3⟩
      rw [decide_eq_false h2, Bool.and_false, Bool.and_false]
    · rw [decide_eq_false (show ¬ q < m + 1 by omega)]
theorem flag2_yes {w : Int} {L : List (List Int)} {x : List Int} {m q r : Nat} (h : q = m) (h2 : nth x (q : Int) = (r : Int)) : flag2 w L x (m + 1) q r = true := by
  unfold flag2
  rw [decide_eq_true h2, decide_eq_true (show q < m + 1 by omega)]
  simp
theorem shC_set {w : Int} {L : List (List Int)} {x : List Int} {i : Int} (h0 : 0 ≤ i) (h1 : i < 4) (hx : 0 ≤ nth x i ∧ nth x i < 10) :
    (shC w L x i.toNat).set (0 + i.toNat * 10 + (nth x i).toNat * 1) (.bool true) = shC w L x (i + 1).toNat := by
  have e : (i + 1).toNat = i.toNat + 1 := by omega
  have ei : ((i.toNat : Nat) : Int) = i := by omega
  rw [e]
  apply List.ext_getElem?
  intro k
  by_cases hk : k < 40
  · rw [List.getElem?_set]
    by_cases hq : 0 + i.toNat * 10 + (nth x i).toNat * 1 = k
    · have hd : k / 10 = i.toNat := by omega
      have hm : ((k % 10 : Nat) : Int) = nth x i := by omega
      rw [if_pos hq, if_pos (by rw [shC_len]; omega)]
      simp only [shC, List.getElem?_map, List.getElem?_range hk, Option.map_some]
      rw [flag2_yes hd (by rw [hd, ei, hm])]
    · rw [if_neg hq]
      simp only [shC, List.getElem?_map, List.getElem?_range hk, Option.map_some]
      rw [flag2_same]
      rintro ⟨hd, hm⟩
      rw [hd, ei] at hm
      omega
  · rw [List.getElem?_eq_none (by simp [shC]; omega), List.getElem?_eq_none (by simp [shC]; omega)]
theorem shC_zero {w : Int} {L : List (List Int)} (x : List Int) : shC w L x 0 = shC w L [] 0 := by
  have h : ∀ y q r, flag2 w L y 0 q r = flag w L q r := fun y q r => by simp [flag2]
  simp only [shC, h]
theorem shC_full {w : Int} {L : List (List Int)} {x : List Int} {m : Int} (h : m = w) (h0 : 0 ≤ w) : shC w L x m.toNat = shC w (L ++ [x]) [] 0 := by
  subst h
  unfold shC
  congr 1
  funext k
  congr 1
  generalize k / 10 = q
  generalize k % 10 = r
  simp only [flag2, flag, List.any_append, List.any_cons, List.any_nil, Bool.or_false, Nat.not_lt_zero, decide_false, Bool.false_and]
  by_cases hk : (q : Int) < m
  · rw [decide_eq_true hk, decide_eq_true (show q < m.toNat by omega)]; simp
  · rw [decide_eq_false hk, decide_eq_false (show ¬ q < m.toNat by omega)]; simp
/-- The cells of one row. -/
def shR (w : Int) (L : List (List Int)) (i : Nat) : List Value := (List.range 10).map fun n : Nat => Value.bool (flag w L i n)
theorem shC_row {w : Int} {L : List (List Int)} {i : Nat} (hi : i < 4) : ((shC w L [] 0).drop (0 + i * 10)).take 10 = shR w L i := by
  apply List.ext_getElem?
  intro k
  rw [List.getElem?_take]
  by_cases hk : k < 10
  · rw [if_pos hk, List.getElem?_drop]
    have h1 : 0 + i * 10 + k < 40 := by omega
    have h2 : (0 + i * 10 + k) / 10 = i := by omega
    have h3 : (0 + i * 10 + k) % 10 = k := by omega
    simp only [shC, shR, List.getElem?_map, List.getElem?_range h1, List.getElem?_range hk, Option.map_some, h2, h3]
    simp [flag2]
  · rw [if_neg hk, List.getElem?_eq_none (by simp [shR]; omega)]
theorem shR_at {w : Int} {L : List (List Int)} {i : Nat} {n : Int} (h0 : 0 ≤ n) (h1 : n < 10) : (shR w L i)[n.toNat]? = some (.bool (flag w L i n.toNat)) := by
  have : n.toNat < 10 := by omega
  simp [shR, this]
theorem shR_len (w : Int) (L : List (List Int)) (i : Nat) : (shR w L i).length = 10 := by simp [shR]
/-- The symbols below m that wheel i shows. -/
def rowTo (w : Int) (L : List (List Int)) (i : Nat) (m : Nat) : List Int := ((List.range m).filter fun n => flag w L i n).map Int.ofNat
theorem rowTo_zero (w : Int) (L : List (List Int)) (i : Nat) : rowTo w L i 0 = [] := by simp [rowTo]
theorem rowTo_yes {w : Int} {L : List (List Int)} {i : Nat} {n : Int} (h0 : 0 ≤ n) (h : flag w L i n.toNat = true) : rowTo w L i (n + 1).toNat = rowTo w L i n.toNat ++ [n] := by
  have e : (n + 1).toNat = n.toNat + 1 := by omega
  rw [e]
  simp [rowTo, List.range_succ, List.filter_append, List.filter_cons, h]
  omega
theorem rowTo_no {w : Int} {L : List (List Int)} {i : Nat} {n : Int} (h0 : 0 ≤ n) (h : flag w L i n.toNat = false) : rowTo w L i (n + 1).toNat = rowTo w L i n.toNat := by
  have e : (n + 1).toNat = n.toNat + 1 := by omega
  rw [e]
  simp [rowTo, List.range_succ, List.filter_append, List.filter_cons, h]
theorem rowTo_len (w : Int) (L : List (List Int)) (i m : Nat) : (rowTo w L i m).length ≤ m := by
  have := List.length_filter_le (fun n => flag w L i n) (List.range m)
  simpa [rowTo] using this
/-- All rows below i done, of row i what is below m. -/
def rowsTo (w : Int) (L : List (List Int)) (M : Nat) (i m : Nat) : List (List Int) := (List.range w.toNat).map fun k => if k < i then rowTo w L k M else if k = i then rowTo w L k m else []
theorem rowsTo_next {w : Int} {L : List (List Int)} {M i : Nat} : rowsTo w L M i M = rowsTo w L M (i + 1) 0 := by
  unfold rowsTo
  congr 1
  funext k
  by_cases h1 : k < i
  · rw [if_pos h1, if_pos (by omega)]
  · rw [if_neg h1]
    by_cases h2 : k = i
    · rw [if_pos h2, if_pos (by omega)]
    · rw [if_neg h2, if_neg (by omega), rowTo_zero]
      simp
theorem rowsTo_start {w : Int} {L : List (List Int)} {M : Nat} : rowsTo w L M 0 0 = List.replicate w.toNat [] := by
  apply List.ext_getElem?
  intro k
  by_cases hk : k < w.toNat
  · simp only [rowsTo, List.getElem?_map, List.getElem?_range hk, Option.map_some, List.getElem?_replicate, if_pos hk]
    simp [rowTo_zero]
  · rw [List.getElem?_eq_none (by simp [rowsTo]; omega), List.getElem?_eq_none (by simp; omega)]
theorem rowsTo_at {w : Int} {L : List (List Int)} {M i m : Nat} (hi : i < w.toNat) : (rowsTo w L M i m)[i]? = some (rowTo w L i m) := by
  simp [rowsTo, hi]
theorem rowsTo_set {w : Int} {L : List (List Int)} {M i m m' : Nat} (hi : i < w.toNat) : (rowsTo w L M i m).set i (rowTo w L i m') = rowsTo w L M i m' := by
  apply List.ext_getElem?
  intro k
  rw [List.getElem?_set]
  by_cases hk : k < w.toNat
  · by_cases h : i = k
    · subst h
      rw [if_pos rfl, if_pos (by simp [rowsTo, hk]), rowsTo_at hk]
    · rw [if_neg h]
      simp [rowsTo, hk, show ¬ k = i by omega]
  · rw [List.getElem?_eq_none (l := rowsTo w L M i m') (by simp [rowsTo]; omega)]
    rw [if_neg (by omega), List.getElem?_eq_none (by simp [rowsTo]; omega)]
theorem rowsTo_same {w : Int} {L : List (List Int)} {M i m m' : Nat} (h : rowTo w L i m' = rowTo w L i m) : rowsTo w L M i m' = rowsTo w L M i m := by
  unfold rowsTo
  congr 1
  funext k
  by_cases h2 : k = i
  · subst h2; simp [h]
  · simp [h2]
/-- What each wheel shows. -/
def showL (w s : Int) (L : List (List Int)) : List (List Int) := rowsTo w L s.toNat w.toNat 0
theorem rowTo_more {w s : Int} {L : List (List Int)} (hs : 0 ≤ s) (hL : ∀ y ∈ L, codeB w s y = true) (i : Nat) : ∀ d : Nat, rowTo w L i (s.toNat + d) = rowTo w L i s.toNat
  | 0 => rfl
  | d + 1 => by
    have ih := rowTo_more hs hL i d
    have hf : flag w L i (s.toNat + d) = false := by
      unfold flag
      by_cases hi : (i : Int) < w
      · simp only [hi, decide_true, Bool.true_and, List.any_eq_false, decide_eq_true_eq]
        intro y hy
        have h1 := code_of (hL y hy)
        have h2 := h1.2 _ (nth_mem (xs := y) (i := i) (by omega) (by omega))
        omega
      · simp [hi]
    have e : rowTo w L i (s.toNat + (d + 1)) = rowTo w L i (s.toNat + d) := by
      have e2 : s.toNat + (d + 1) = (s.toNat + d) + 1 := by omega
      rw [e2]
      simp [rowTo, List.range_succ, List.filter_append, List.filter_cons, hf]
    rw [e, ih]
theorem rows_ten {w s : Int} {L : List (List Int)} (hs : 0 ≤ s ∧ s ≤ 10) (hL : ∀ y ∈ L, codeB w s y = true) : rowsTo w L 10 w.toNat 0 = showL w s L := by
  unfold showL rowsTo
  apply List.map_congr_left
  intro k hk
  have hk' : k < w.toNat := by simpa using hk
  have := rowTo_more hs.1 hL k (10 - s.toNat)
  have e : s.toNat + (10 - s.toNat) = 10 := by omega
  rw [e] at this
  simp [hk', this]
theorem map_snd_set {α β : Type} {ps : List (α × β)} {L : List β} (h : ps.map (·.2) = L) (i : Nat) (a : α) (x : β) : (ps.set i (a, x)).map (·.2) = L.set i x := by rw [← h, List.map_set]
theorem map_fst_set {α β : Type} (ps : List (α × β)) (i : Nat) (a : α) (x : β) : (ps.set i (a, x)).map (·.1) = (ps.map (·.1)).set i a := by rw [List.map_set]
theorem snd_at {α β : Type} {ps : List (α × β)} {L : List β} (h : ps.map (·.2) = L) {i : Nat} {x : β} (hx : L[i]? = some x) : ∃ a, ps[i]? = some (a, x) := by
  rw [← h, List.getElem?_map] at hx
  cases hp : ps[i]? with
  | none => rw [hp] at hx; simp at hx
  | some p => rw [hp] at hx; simp at hx; subst hx; exact ⟨p.1, rfl⟩

end Go.Proofs.Ytldagbcceefcdaa

/- part Next -/
/- Plain laws on the next guess: how many readings answer alike; the first best guess. No program in sight. -/
namespace Go.Proofs.Ytldagbcceefcdaa
set_option linter.unusedVariables false
set_option linter.unusedSimpArgs false
open Go.RowKit

def comN (y x : List Int) : Int := commonN y x 10 - rightN y x
/-- How many answer r and c to x. -/
def cntRC (L : List (List Int)) (x : List Int) (r c : Int) : Int := ((L.filter fun y => decide (rightN y x = r) && decide (comN y x = c)).length : Int)
def maxL : List Int → Int
  | [] => 0
  | a :: l => max a (maxL l)
theorem maxL_snoc : ∀ (l : List Int) (a : Int), 0 ≤ a → maxL (l ++ [a]) = max (maxL l) a
  | [], a, h => by simp only [List.nil_append, maxL]; omega
  | b :: l, a, h => by simp only [List.cons_append, maxL, maxL_snoc l a h]; omega
theorem maxL_nonneg : ∀ l : List Int, 0 ≤ maxL l
  | [] => by simp [maxL]
  | a :: l => by have := maxL_nonneg l; simp only [maxL]; omega
theorem maxL_ge : ∀ {l : List Int} {a : Int}, a ∈ l → a ≤ maxL l
  | b :: l, a, h => by
    simp only [List.mem_cons] at h
    simp only [maxL]
    rcases h with rfl | h
    · omega
    · have := maxL_ge h; omega
theorem maxL_le : ∀ {l : List Int} {m : Int}, 0 ≤ m → (∀ a ∈ l, a ≤ m) → maxL l ≤ m
  | [], m, h, _ => h
  | b :: l, m, h, ha => by
    have h1 := ha b (by simp)
    have h2 := maxL_le h (fun a h => ha a (by simp [h]) : ∀ a ∈ l, a ≤ m)
    simp only [maxL]; omega
def cA (L : List (List Int)) (x y : List Int) : Int := cntRC L x (rightN y x) (comN y x)
/-- The greatest number of readings with one answer. -/
def wN (L : List (List Int)) (x : List Int) : Int := maxL (L.map (cA L x))
theorem cntRC_snoc (L : List (List Int)) (x y : List Int) (r c : Int) : cntRC (L ++ [y]) x r c = cntRC L x r c + if rightN y x = r ∧ comN y x = c then 1 else 0 := by
  unfold cntRC
  by_cases h1 : rightN y x = r <;> by_cases h2 : comN y x = c <;> simp [List.filter_append, List.filter_cons, h1, h2]
theorem cntRC_bd (L : List (List Int)) (x : List Int) (r c : Int) : 0 ≤ cntRC L x r c ∧ cntRC L x r c ≤ L.length := by
  unfold cntRC
  have := List.length_filter_le (fun y => decide (rightN y x = r) && decide (comN y x = c)) L
  omega
theorem wN_nil (x : List Int) : wN [] x = 0 := rfl
theorem wN_bd (L : List (List Int)) (x : List Int) : 0 ≤ wN L x ∧ wN L x ≤ L.length := by
  refine ⟨maxL_nonneg _, maxL_le (by omega) fun a ha => ?_⟩
  obtain ⟨y, _, rfl⟩ := List.mem_map.1 ha
  exact (cntRC_bd _ _ _ _).2
theorem wN_snoc (L : List (List Int)) (x y : List Int) : wN (L ++ [y]) x = max (wN L x) (cA (L ++ [y]) x y) := by
  have h0 := (cntRC_bd (L ++ [y]) x (rightN y x) (comN y x)).1
  have h1 := (wN_bd L x).1
  apply Int.le_antisymm
  · refine maxL_le (by unfold cA; omega) fun a ha => ?_
    obtain ⟨z, hz, rfl⟩ := List.mem_map.1 ha
    by_cases h : rightN y x = rightN z x ∧ comN y x = comN z x
    · have : cA (L ++ [y]) x z = cA (L ++ [y]) x y := by unfold cA; rw [h.1, h.2]
      omega
    · have h2 : z ∈ L := by
        simp only [List.mem_append, List.mem_singleton] at hz
        rcases hz with hz | rfl
        · exact hz
        · exact absurd ⟨rfl, rfl⟩ h
      have h3 : cA (L ++ [y]) x z = cA L x z := by
        show cntRC (L ++ [y]) x _ _ = cntRC L x _ _
        rw [cntRC_snoc, if_neg h]; omega
      have h4 : cA L x z ≤ wN L x := maxL_ge (List.mem_map_of_mem h2)
      omega
  · have h2 : cA (L ++ [y]) x y ≤ wN (L ++ [y]) x := maxL_ge (List.mem_map_of_mem (by simp))
    have h3 : wN L x ≤ wN (L ++ [y]) x := by
      refine maxL_le (maxL_nonneg _) fun a ha => ?_
      obtain ⟨z, hz, rfl⟩ := List.mem_map.1 ha
      have h4 : cA (L ++ [y]) x z ≤ wN (L ++ [y]) x := maxL_ge (List.mem_map_of_mem (by simp [hz]))
      have h5 : cA L x z ≤ cA (L ++ [y]) x z := by
        show cntRC L x _ _ ≤ cntRC (L ++ [y]) x _ _
        rw [cntRC_snoc]; split <;> omega
      omega
    omega
/-- The table of answers. -/
def tabC (L : List (List Int)) (x : List Int) : List Value := (List.range 25).map fun k : Nat => Value.int .i64 (cntRC L x ((k / 5 : Nat) : Int) ((k % 5 : Nat) : Int))
theorem tabC_len (L : List (List Int)) (x : List Int) : (tabC L x).length = 25 := by simp [tabC]
theorem tabC_nil (x : List Int) : tabC [] x = List.replicate 25 (Value.int .i64 0) := by
  have h : ∀ r c, cntRC [] x r c = 0 := fun r c => rfl
  simp only [tabC, h]
  rfl
theorem tabC_at {L : List (List Int)} {x : List Int} {r c : Int} (h : 0 ≤ r ∧ r ≤ 4) (h2 : 0 ≤ c ∧ c ≤ 4) : (tabC L x)[0 + r.toNat * 5 + c.toNat * 1]? = some (.int .i64 (cntRC L x r c)) := by
  have h3 : 0 + r.toNat * 5 + c.toNat * 1 < 25 := by omega
  have h4 : ((0 + r.toNat * 5 + c.toNat * 1) / 5 : Nat) = r.toNat := by omega
  have h5 : ((0 + r.toNat * 5 + c.toNat * 1) % 5 : Nat) = c.toNat := by omega
  have e1 : ((r.toNat : Nat) : Int) = r := by omega
  have e2 : ((c.toNat : Nat) : Int) = c := by omega
  simp only [tabC, List.getElem?_map, List.getElem?_range h3, Option.map_some, h4, h5, e1, e2]
theorem tabC_set {L : List (List Int)} {x y : List Int} (h : 0 ≤ rightN y x ∧ rightN y x ≤ 4) (h2 : 0 ≤ comN y x ∧ comN y x ≤ 4) :
    (tabC L x).set (0 + (rightN y x).toNat * 5 + (comN y x).toNat * 1) (.int .i64 (cntRC L x (rightN y x) (comN y x) + 1)) = tabC (L ++ [y]) x := by
  apply List.ext_getElem?
  intro k
  by_cases hk : k < 25
  · rw [List.getElem?_set]
    by_cases hq : 0 + (rightN y x).toNat * 5 + (comN y x).toNat * 1 = k
    · have h3 : ((k / 5 : Nat) : Int) = rightN y x := by omega
      have h4 : ((k % 5 : Nat) : Int) = comN y x := by omega
      rw [if_pos hq, if_pos (by rw [tabC_len]; omega)]
      simp only [tabC, List.getElem?_map, List.getElem?_range hk, Option.map_some, h3, h4, cntRC_snoc]
      simp
    · rw [if_neg hq]
      simp only [tabC, List.getElem?_map, List.getElem?_range hk, Option.map_some, cntRC_snoc]
      rw [if_neg (by omega)]
      simp
  · rw [List.getElem?_eq_none (by simp [tabC]; omega), List.getElem?_eq_none (by simp [tabC]; omega)]
/-- Which of the first i codes is the first best guess. -/
def bestJ (L : List (List Int)) : Nat → Nat
  | 0 => 0
  | i + 1 => if i = 0 then 0 else if wN L (nth L i) < wN L (nth L (bestJ L i)) then i else bestJ L i
theorem bestJ_lt (L : List (List Int)) : ∀ i, 0 < i → bestJ L i < i
  | 0, h => by omega
  | i + 1, _ => by
    simp only [bestJ]
    split
    · omega
    · split
      · omega
      · have := bestJ_lt L i (by omega); omega
def nxE (w s : Int) (cs : List Clue) : Int := if cluesE w s cs = 0 then (if (readL w s cs).length = 0 then 3 else if 200 < (readL w s cs).length then 2 else 0) else cluesE w s cs
def nxG (w s : Int) (cs : List Clue) : List Int := nth (readL w s cs) (bestJ (readL w s cs) (readL w s cs).length)
theorem ans_bd {w s : Int} {x y : List Int} (hL : lockB w s = true) (hx : codeB w s x = true) (hy : codeB w s y = true) : (0 ≤ rightN y x ∧ rightN y x ≤ 4) ∧ (0 ≤ comN y x ∧ comN y x ≤ 4) := by
  have h1 := code_ten hL hy
  have h2 := right_common (ys := x) h1.2
  have h3 := common_len (ys := x) h1.2
  have h4 := rightN_le y x
  unfold comN
  omega
/-- What the walk over the guesses holds. -/
structure NextI (L : List (List Int)) (gs : List Value) (i : Int) (v : Value) (m : Int) : Prop where
  lo : i = 0 → v = .slice none 0 0 ∧ m = 0
  hi : 0 < i → v = nth gs (bestJ L i.toNat) ∧ m = wN L (nth L (bestJ L i.toNat))
def nilB : Value → Bool
  | .slice none _ _ => true
  | _ => false
theorem nilB_some {u : World} {v : Value} {xs : List Int} (h : SlI u v xs) (h0 : 0 < xs.length) : nilB v = false ∧ ∃ p n c, v = .slice p n c := by
  obtain ⟨_, p, cap, rfl, _, h2⟩ := h
  rcases h2 with h2 | ⟨b, o, rfl, _⟩
  · omega
  · exact ⟨rfl, _, _, _, rfl⟩
section
variable {L : List (List Int)} {gs : List Value} {i m : Int} {v : Value}
theorem NextI.start : NextI L gs 0 (.slice none 0 0) 0 := ⟨fun _ => ⟨rfl, rfl⟩, fun h => by omega⟩
theorem NextI.nil {u : World} {lv : Value} (h : NextI L gs i v m) (hs : SlL u lv L gs) (h0 : 0 ≤ i) (h1 : i ≤ L.length) (hp : ∀ j : Int, 0 ≤ j → j < L.length → 0 < (nth L j).length) : nilB v = decide (i = 0) ∧ ∃ p n c, v = .slice p n c := by
  by_cases hi : i = 0
  · obtain ⟨rfl, _⟩ := h.lo hi
    exact ⟨by simp [hi, nilB], _, _, _, rfl⟩
  · obtain ⟨rfl, _⟩ := h.hi (by omega)
    have hb := bestJ_lt L i.toNat (by omega)
    have := nilB_some (hs.el (bestJ L i.toNat) (by omega) (by omega)) (hp _ (by omega) (by omega))
    exact ⟨by rw [this.1]; simp [hi], this.2⟩
theorem NextI.take (h : NextI L gs i v m) (h0 : 0 ≤ i) (hc : nilB v = true ∨ wN L (nth L i) < m) (hn : nilB v = decide (i = 0)) : NextI L gs (i + 1) (nth gs i) (wN L (nth L i)) := by
  have e : (i + 1).toNat = i.toNat + 1 := by omega
  have e2 : ((i.toNat : Nat) : Int) = i := by omega
  refine ⟨fun h => by omega, fun _ => ?_⟩
  have : bestJ L (i + 1).toNat = i.toNat := by
    rw [e, bestJ]
    by_cases hi : i.toNat = 0
    · rw [if_pos hi, hi]
    · rw [if_neg hi, if_pos]
      have h2 := (h.hi (by omega)).2
      rw [hn] at hc
      rcases hc with hc | hc
      · simp at hc; omega
      · rw [e2, ← h2]; exact hc
  rw [this, e2]
  exact ⟨rfl, rfl⟩
theorem NextI.take1 (h : NextI L gs i v m) (h0 : 1 ≤ i) (hc : wN L (nth L i) < m) : NextI L gs (i + 1) (nth gs i) (wN L (nth L i)) := by
  have e : (i + 1).toNat = i.toNat + 1 := by omega
  have e2 : ((i.toNat : Nat) : Int) = i := by omega
  refine ⟨fun h => by omega, fun _ => ?_⟩
  have : bestJ L (i + 1).toNat = i.toNat := by
    rw [e, bestJ, if_neg (by omega), if_pos]
    have h2 := (h.hi (by omega)).2
    rw [e2, ← h2]; exact hc
  rw [this, e2]
  exact ⟨rfl, rfl⟩
theorem NextI.leave1 (h : NextI L gs i v m) (h0 : 1 ≤ i) (hc : ¬ wN L (nth L i) < m) : NextI L gs (i + 1) v m := by
  have e : (i + 1).toNat = i.toNat + 1 := by omega
  have e2 : ((i.toNat : Nat) : Int) = i := by omega
  refine ⟨fun h => by omega, fun _ => ?_⟩
  have h2 := h.hi (by omega)
  have : bestJ L (i + 1).toNat = bestJ L i.toNat := by
    rw [e, bestJ, if_neg (by omega), if_neg]
    rw [e2, ← h2.2]; exact hc
  rw [this]
  exact h2
theorem NextI.leave (h : NextI L gs i v m) (h0 : 0 ≤ i) (hc : nilB v = false ∧ ¬ wN L (nth L i) < m) (hn : nilB v = decide (i = 0)) : NextI L gs (i + 1) v m := by
  have e : (i + 1).toNat = i.toNat + 1 := by omega
  have e2 : ((i.toNat : Nat) : Int) = i := by omega
  have hi : ¬ i.toNat = 0 := by rw [hn] at hc; simp at hc; omega
  refine ⟨fun h => by omega, fun _ => ?_⟩
  have h2 := h.hi (by omega)
  have : bestJ L (i + 1).toNat = bestJ L i.toNat := by
    rw [e, bestJ, if_neg hi, if_neg]
    rw [e2, ← h2.2]; exact hc.2
  rw [this]
  exact h2
end
section
variable {P : Program} {l : List Value} {d : Option Tmp} {ty : TypeId} {ps : String} {af : Array Edge} {g : Option (Nat × Bool)} {C : World → Prop}
theorem det_eqnilV {T e : TypeId} {a b : Nat} {T' : TypeId} {x y : Operand} {v : Value} (hT : sl P T = some (e, a, b)) (hx : evo l x = some v) (hy : evo l y = some (.slice none 0 0)) (hv : ∃ p n c, v = .slice p n c) :
    Det P C ⟨d, .binOp .eql T x y T', ty, ps, af, g⟩ l (.bool (nilB v)) := by
  obtain ⟨p, n, c, rfl⟩ := hv
  have := det_eqnil (P := P) (C := C) (d := d) (ty := ty) (ps := ps) (af := af) (g := g) (T' := T') hT hx hy
  cases p <;> exact this
theorem det_nenilV {T e : TypeId} {a b : Nat} {T' : TypeId} {x y : Operand} {v : Value} (hT : sl P T = some (e, a, b)) (hx : evo l x = some v) (hy : evo l y = some (.slice none 0 0)) (hv : ∃ p n c, v = .slice p n c) :
    Det P C ⟨d, .binOp .neq T x y T', ty, ps, af, g⟩ l (.bool (!nilB v)) := by
  obtain ⟨p, n, c, rfl⟩ := hv
  have := det_nenil (P := P) (C := C) (d := d) (ty := ty) (ps := ps) (af := af) (g := g) (T' := T') hT hx hy
  cases p <;> exact this
end
end Go.Proofs.Ytldagbcceefcdaa

/- part Del -/
/- A row of the call's own opened: append within it, clear; slices of clues that grow. No program in sight. -/
namespace Go.Proofs.Ytldagbcceefcdaa
set_option linter.unusedVariables false
set_option linter.unusedSimpArgs false
open Go.RowKit Go.Proofs

section
variable {P : Program} {ro : Option Nat} {n0 : Nat} {w0 : World} {ds : List Deferred} {ops : Array Oper} {Q : Exit → Act → World → Prop} {L : List SA}
  {rest : List Oper} {l : List Value} {d : Option Tmp} {ty : TypeId} {ps : String} {af : Array Edge} {g : Option (Nat × Bool)} {C : World → Prop} {u : World}
theorem St.openRow {e : TypeId} {k n : Nat} {v : Value} {xs : List Value} (h : St n0 w0 (osl e k v n xs :: L) u) (hn : 0 < n) :
    ∃ b cap cur, v = .slice (some ⟨b, 0, none⟩) n cap ∧ n ≤ cap ∧ cap ≤ 9223372036854775807 ∧ cur.length = cap * k ∧ cur.take (n * k) = xs ∧ St n0 w0 (Go.Proofs.Ytldagbcceefcdaa.blk b cur e :: L) u := by
  obtain ⟨h1, h2, T, h3, ⟨hS, hl, h4⟩, h5⟩ := h
  rcases h4 with ⟨_, rfl⟩ | ⟨b, cap, cur, rfl, _, hg, hc, hm, hs, ht⟩
  · omega
  · refine ⟨b, cap, cur.toList, rfl, hc, hm, by simpa using hs, ht, h1, h2, T, h3, ⟨fun k => ?_, by simpa using hg⟩, h5⟩
    rw [hS k]
    simp [Value.ownBlock, eq_comm]
theorem St.closeRow {e : TypeId} {k n cap b : Nat} {cur xs : List Value} (h : St n0 w0 (Go.Proofs.Ytldagbcceefcdaa.blk b cur e :: L) u) (hc : n ≤ cap) (hm : cap ≤ 9223372036854775807) (hs : cur.length = cap * k) (hx : cur.take (n * k) = xs) :
    St n0 w0 (osl e k (.slice (some ⟨b, 0, none⟩) n cap) n xs :: L) u := by
  obtain ⟨h1, h2, T, h3, ⟨hS, hg⟩, h5⟩ := h
  refine ⟨h1, h2, T, h3, ⟨fun k => ?_, ?_, .inr ⟨b, cap, cur.toArray, rfl, Nat.zero_le _, hg, hc, hm, by simpa using hs, by simpa using hx⟩⟩, h5⟩
  · rw [hS k]; simp [Value.ownBlock, eq_comm]
  · rw [← hx, List.length_take, hs]
    exact Nat.min_eq_left (Nat.mul_le_mul_right _ hc)
theorem St.setRow {b j : Nat} {c c' : List Value} {e : TypeId} (h : St n0 w0 L u) (hj : L[j]? = some (Go.Proofs.Ytldagbcceefcdaa.blk b c e)) : St n0 w0 (L.set j (Go.Proofs.Ytldagbcceefcdaa.blk b c' e)) (u.setRow b c'.toArray) := by
  obtain ⟨S, hS, ⟨hS1, hb⟩, hupd⟩ := h.upd hj
  refine hupd _ _ (fun k => k = b) ⟨rfl, rfl, rfl, by simp, fun k hk => setRow_other u b k _ (fun e => by have := hS b ((hS1 b).2 rfl); omega)⟩ (fun k hk o' hcell => ?_) ⟨fun k => Iff.rfl, ?_⟩ (fun k hk => by subst hk; exact ⟨hS _ ((hS1 _).2 rfl), .inl ((hS1 _).2 rfl)⟩)
  · rw [setRow_other u b k _ (fun e => hk.2.2 ((hS1 k).2 e))]; exact hcell
  · exact setRow_heap u b c.toArray c'.toArray e _ hb
/-- append within a row of the call's own: what is appended is read in the row itself. -/
theorem WS.blkAppend {T e : TypeId} {k by_ i j b n m cap off cap' : Nat} {x y : Operand} {vx vy : Value} {c news : List Value} (hT : sl P T = some (e, k, by_)) (hx : evo l x = some vx) (hvx : vx = .slice (some ⟨b, 0, none⟩) n cap)
    (hy : evo l y = some vy) (hvy : vy = .slice (some ⟨b, off, none⟩) m cap') (hj : L[j]? = some (blk b c e)) (hnews : (c.drop off).take (m * k) = news) (hlen : news.length = m * k) (h1 : ∀ a ∈ news, a.oneCell' = true) (hroom : n + m ≤ cap) (hfit : n * k + m * k ≤ c.length)
    {l' : List Value} (hl : lset l i (.slice (some ⟨b, 0, none⟩) (n + m) cap) = some l') {L' : List SA} (hL : lset L j (blk b (c.take (n * k) ++ news ++ c.drop (n * k + m * k)) e) = some L') (kk : WS P ro n0 w0 ds ops Q L' rest l') :
    WS P ro n0 w0 ds ops Q L (⟨some i, .call ⟨.builtin .append, #[x, y], #[T, T]⟩, ty, ps, af, none⟩ :: rest) l := by
  subst hvx; subst hvy
  replace hx := ev_of hx
  replace hy := ev_of hy
  refine WS.world rfl rfl fun u hu => ?_
  obtain ⟨inf, hu1, hi, hs, hby⟩ := sl_spec hT
  obtain ⟨_, hb⟩ := hu.blk hj
  have hr := run_append_room (P := P) u T ty e inf hu1 hi b n cap c.toArray hb ⟨b, off, none⟩ m cap' news (by rw [hs]; exact hlen) (fun q z hz => by
    rw [addr_add, blk_cell hb]
    rw [← hnews, List.getElem?_take] at hz
    split at hz
    · rw [List.getElem?_drop] at hz; exact hz
    · simp at hz) h1 hroom (by rw [hs, hlen]; simpa using hfit)
  refine ⟨_, _, by simp [execOp, resolve, invoke, builtin, hx, hy, hr]; exact ⟨rfl, rfl⟩, ?_⟩
  rw [put_some, lset_of hl]
  refine kk _ ?_
  rw [← lset_of hL]
  have h2 := hu.setRow (c' := c.take (n * k) ++ news ++ c.drop (n * k + m * k)) hj
  rw [hs, hlen]
  simpa using h2
theorem WS.clearBlk {T e : TypeId} {k by_ j b m off cap' : Nat} {x : Operand} {c zc : List Value} (hT : sl P T = some (e, k, by_)) (hz : zv P e = some zc) (hzl : zc.length = k) (hx : evo l x = some (.slice (some ⟨b, off, none⟩) m cap')) (hm : m = 1)
    (hj : L[j]? = some (blk b c e)) (h1 : ∀ a ∈ zc, a.oneCell' = true) (hfit : off + k ≤ c.length)
    {L' : List SA} (hL : lset L j (blk b (c.take off ++ zc ++ c.drop (off + k)) e) = some L') (kk : WS P ro n0 w0 ds ops Q L' rest l) :
    WS P ro n0 w0 ds ops Q L (⟨none, .call ⟨.builtin .clear, #[x], #[T]⟩, ty, ps, af, none⟩ :: rest) l := by
  subst hm
  replace hx := ev_of hx
  refine WS.world rfl rfl fun u hu => ?_
  obtain ⟨inf, hu1, hi, hs, hby⟩ := sl_spec hT
  unfold zv at hz
  rw [hi] at hz
  cases hz2 : inf.zero with
  | none => simp [hz2] at hz
  | some zz =>
    simp [hz2] at hz
    obtain ⟨_, hb⟩ := hu.blk hj
    have hzc : (Builtin.zeroCells zz.cells 1).toList = zc := by
      have : (Builtin.zeroCells zz.cells 1).toList = zz.cells.toList := by
        apply List.ext_getElem
        · simp [Builtin.zeroCells]
        · intro q h1 h2
          have hq : q < zz.cells.size := by simpa using h2
          simp [Builtin.zeroCells, Nat.mod_eq_of_lt hq, hq]
      rw [this]; exact hz
    have hst := run_storeCells_at P b off e zc 0 c.toArray u hb (by simp [hzl]; exact hfit) h1
    simp only [Nat.add_zero] at hst
    refine ⟨_, _, by simp [execOp, resolve, invoke, builtin, hx, Builtin.clear_, run_underlying hu1, zeroValue, typeInfo, hi, hz2, hzc, hst]; exact ⟨rfl, rfl⟩, ?_⟩
    rw [put_none]
    refine kk _ ?_
    rw [← lset_of hL]
    have h2 := hu.setRow (c' := c.take off ++ zc ++ c.drop (off + k)) hj
    rw [hzl]
    simpa using h2
theorem det_slCap {T e : TypeId} {k by_ b m cap : Nat} {x y z : Operand} {lo hi : Int} (hT : sl P T = some (e, k, by_)) (hx : evo l x = some (.slice (some ⟨b, 0, none⟩) m cap)) (hy : evo l y = some (.int .i64 lo)) (hz : evo l z = some (.int .i64 hi))
    (h0 : 0 ≤ lo) (h1 : lo ≤ hi) (h2 : hi ≤ cap) (h3 : lo < cap) : Det P C ⟨d, .slice T x (some y) (some z) none, ty, ps, af, g⟩ l (.slice (some ⟨b, lo.toNat * k, none⟩) (hi.toNat - lo.toNat) (cap - lo.toNat)) := fun u _ => by
  obtain ⟨inf, hu, hi', hk, _⟩ := sl_spec hT
  replace hx := ev_of hx
  replace hy := ev_of hy
  replace hz := ev_of hz
  have e1 : (0 ≤ hi ∧ hi ≤ (cap : Int)) := by omega
  have e2 : (0 ≤ lo ∧ lo ≤ ((hi.toNat : Nat) : Int)) := by omega
  have e3 : lo ≤ max hi 0 := by omega
  have e4 : ¬ cap = lo.toNat := by omega
  simp [execOp, DetUpon, hx, hy, hz, Instr.sliceAt, Instr.slice, Instr.sliceBounds, Instr.sliceBound, asIntOf, run_underlying hu, e1, e2, e3, e4, sizeOf, typeInfo, hi', hk, addr_add]
theorem WS.build0 {T e : TypeId} {k by_ i : Nat} {zc : List Value} (hT : sl P T = some (e, k, by_)) (hz : zv P e = some zc)
    {l' : Value → List Value} (hl : ∀ v, lset l i v = some (l' v)) (kk : ∀ v, WS P ro n0 w0 ds ops Q (osl e k v 0 [] :: L) rest (l' v)) :
    WS P ro n0 w0 ds ops Q L (⟨some i, .buildSlice T 0 #[], ty, ps, af, none⟩ :: rest) l := by
  refine WS.world rfl rfl fun u hu => ?_
  obtain ⟨inf, hu1, hi, hs, hby⟩ := sl_spec hT
  unfold zv at hz
  rw [hi] at hz
  cases hz2 : inf.zero with
  | none => simp [hz2] at hz
  | some zz =>
    refine ⟨.slice (some ⟨u.heap.size, 0, none⟩) 0 0, u.alloc (.cells #[] e), ?_, ?_⟩
    · simp [execOp, Instr.buildSlice, run_underlying hu1, sizeOf, typeInfo, hi, hs, newRow, Instr.fill, zeroValue, hz2]
      congr 2
      apply Array.ext'
      simp
    · rw [put_some, lset_of (hl _)]
      refine kk _ _ (hu.cons (T := fun k => k = u.heap.size) ((Below.refl _ u).alloc (Nat.le_refl _) _) ⟨?_, by simp, .inr ⟨u.heap.size, 0, #[], rfl, Nat.zero_le _, World.alloc_heap_new u _, Nat.le_refl _, ?_, ?_, ?_⟩⟩ (fun k hk => by omega))
      · intro k; simp [Value.ownBlock]; exact eq_comm
      · simp only [maxLen]; omega
      · simp
      · simp
/-- Clues are cells of one cell each. -/
theorem clFlat_one {cs : List Clue} {gs : List Value} (hg : ∀ g ∈ gs, g.oneCell' = true) : ∀ a ∈ clFlat cs gs, a.oneCell' = true := by
  intro a ha
  unfold clFlat at ha
  rw [List.mem_flatten] at ha
  obtain ⟨r, hr, ha⟩ := ha
  obtain ⟨q, hq, rfl⟩ := List.getElem_of_mem hr
  simp only [List.getElem_zipWith, clCells, List.mem_cons, List.not_mem_nil, or_false] at ha
  have hq2 : q < gs.length := by simp at hq; omega
  rcases ha with rfl | rfl | rfl | rfl | rfl | rfl | rfl <;> first | rfl | exact hg _ (List.getElem_mem hq2)
theorem ClS.one {w : World} {v : Value} {cs : List Clue} {gs : List Value} (h : ClS w v cs gs) : ∀ g ∈ gs, g.oneCell' = true := by
  intro g hg
  obtain ⟨i, h0, h1, rfl⟩ := mem_nth hg
  obtain ⟨_, p, cap, h2, _⟩ := h.el i h0 (by have := h.len; omega)
  rw [h2]; rfl
theorem clFlat_len {cs : List Clue} {gs : List Value} (h : gs.length = cs.length) : (clFlat cs gs).length = cs.length * 7 := by
  unfold clFlat
  rw [flat_len 7 _ (by intro x hx; obtain ⟨n, hn, rfl⟩ := List.getElem_of_mem hx; simp [clCells])]
  simp [h]
theorem clFlat_app {cs cs' : List Clue} {gs gs' : List Value} (h : gs.length = cs.length) : clFlat cs gs ++ clFlat cs' gs' = clFlat (cs ++ cs') (gs ++ gs') := by
  unfold clFlat
  rw [List.zipWith_append h.symm, List.flatten_append]
theorem clFlat_take (cs : List Clue) (gs : List Value) (m : Nat) : (clFlat cs gs).take (m * 7) = clFlat (cs.take m) (gs.take m) := by
  have := clFlat_dt (cs := cs) (gs := gs) 0 m
  simpa using this
theorem clFlat_drop {cs : List Clue} {gs : List Value} (h : gs.length = cs.length) (lo : Nat) : (clFlat cs gs).drop (lo * 7) = clFlat (cs.drop lo) (gs.drop lo) := by
  have h1 := clFlat_dt (cs := cs) (gs := gs) lo cs.length
  rw [List.take_of_length_le (by rw [List.length_drop, clFlat_len h]; omega)] at h1
  rw [h1, List.take_of_length_le (by simp), List.take_of_length_le (by simp; omega)]
theorem clFlat_era {cs : List Clue} {gs : List Value} (h : gs.length = cs.length) (i : Nat) : (clFlat cs gs).take (i * 7) ++ (clFlat cs gs).drop ((i + 1) * 7) = clFlat (cs.eraseIdx i) (gs.eraseIdx i) := by
  rw [clFlat_take, clFlat_drop h, clFlat_app (by simp [h]), List.eraseIdx_eq_take_drop_succ, List.eraseIdx_eq_take_drop_succ]
end
end Go.Proofs.Ytldagbcceefcdaa

/- part Core -/
/- Plain laws on choices of clues by their numbers: idle clues, the core. A call that turns parts of the caller's memory. No program in sight but that. -/
namespace Go.Proofs.Ytldagbcceefcdaa
set_option linter.unusedVariables false
set_option linter.unusedSimpArgs false
open Go.RowKit Go.Proofs

def pickN {α : Type} [Inhabited α] (cs : List α) (ns : List Nat) : List α := ns.map fun k => cs.getD k default
/-- The numbers from i on, below n. -/
def restN (n i : Nat) : List Nat := (List.range n).drop i
section
variable {α : Type} [Inhabited α] {cs : List α} {ns ms : List Nat}
theorem pickN_len : (pickN cs ns).length = ns.length := by simp [pickN]
theorem pickN_app : pickN cs (ns ++ ms) = pickN cs ns ++ pickN cs ms := by simp [pickN]
theorem pickN_all : pickN cs (List.range cs.length) = cs := by
  apply List.ext_getElem
  · simp [pickN]
  · intro i h1 h2
    simp [pickN, List.getD, h2]
theorem pickN_era (i : Nat) : pickN cs (ns.eraseIdx i) = (pickN cs ns).eraseIdx i := by unfold pickN; rw [eraseIdx_map']
theorem pickN_at {i : Nat} (h : i < ns.length) : (pickN cs ns)[i]? = some (cs.getD ns[i] default) := by simp [pickN, h]
theorem pickN_mem {x : α} (hn : ∀ k ∈ ns, k < cs.length) (h : x ∈ pickN cs ns) : x ∈ cs := by
  unfold pickN at h
  obtain ⟨k, hk, rfl⟩ := List.mem_map.1 h
  have := hn k hk
  simp [List.getD, this]
end
theorem restN_zero (n : Nat) : restN n 0 = List.range n := by simp [restN]
theorem restN_cons {n i : Nat} (h : i < n) : restN n i = i :: restN n (i + 1) := by
  unfold restN
  rw [List.drop_eq_getElem_cons (by simpa using h)]
  simp
theorem restN_end (n : Nat) : restN n n = [] := by simp [restN]
theorem restN_mem {n i k : Nat} (h : k ∈ restN n i) : i ≤ k ∧ k < n := by
  unfold restN at h
  obtain ⟨j, hj, rfl⟩ := List.getElem_of_mem h
  simp at hj ⊢
  omega
theorem restN_len (n i : Nat) : (restN n i).length = n - i := by simp [restN]

/-- The clues without the i-th. -/
theorem era_numbers (n i : Nat) (h : i < n) : (List.range n).eraseIdx i = (List.range n).filter fun k => decide (k ≠ i) := by
  have e : List.range n = List.range i ++ i :: restN n (i + 1) := by
    have h1 := List.take_append_drop i (List.range n)
    have h2 : (List.range n).drop i = restN n i := rfl
    rw [h2, restN_cons h] at h1
    rw [← h1]
    congr 1
    rw [List.take_range]
    congr 1
    omega
  have f1 : (List.range i).filter (fun k => decide (k ≠ i)) = List.range i := by
    rw [List.filter_eq_self]
    intro a ha
    have : a < i := by simpa using ha
    simp; omega
  have f2 : (restN n (i + 1)).filter (fun k => decide (k ≠ i)) = restN n (i + 1) := by
    rw [List.filter_eq_self]
    intro a ha
    have := restN_mem ha
    simp; omega
  rw [e, List.filter_append, List.filter_cons, f1, f2]
  simp only [ne_eq, not_true_eq_false, decide_false, Bool.false_eq_true, if_false]
  rw [List.eraseIdx_append_of_length_le (by simp)]
  simp
def numsB (n : Nat) (but : Int) : List Int := ((List.range n).filter fun k : Nat => decide ((k : Int) ≠ but)).map Int.ofNat
theorem numsB_zero (but : Int) : numsB 0 but = [] := rfl
theorem numsB_yes {n but : Int} (h0 : 0 ≤ n) (h : ¬ n = but) : numsB (n + 1).toNat but = numsB n.toNat but ++ [n] := by
  have e : (n + 1).toNat = n.toNat + 1 := by omega
  have e2 : ((n.toNat : Nat) : Int) = n := by omega
  rw [e]
  simp [numsB, List.range_succ, List.filter_append, List.filter_cons, e2, h]
theorem numsB_no {n but : Int} (h0 : 0 ≤ n) (h : n = but) : numsB (n + 1).toNat but = numsB n.toNat but := by
  subst h
  have e : (n + 1).toNat = n.toNat + 1 := by omega
  have e2 : ((n.toNat : Nat) : Int) = n := by omega
  rw [e]
  simp [numsB, List.range_succ, List.filter_append, List.filter_cons, e2]
theorem numsB_len (n : Nat) (but : Int) : (numsB n but).length ≤ n := by
  have := List.length_filter_le (fun k : Nat => decide ((k : Int) ≠ but)) (List.range n)
  simpa [numsB] using this
theorem numsB_all (n : Nat) : numsB n (-1) = (List.range n).map Int.ofNat := by
  unfold numsB
  congr 1
  rw [List.filter_eq_self]
  intro a _
  simp
theorem numsB_era {n : Nat} {i : Nat} (h : i < n) : numsB n (i : Int) = ((List.range n).eraseIdx i).map Int.ofNat := by
  rw [era_numbers n i h]
  unfold numsB
  congr 2
  funext k
  simp [Int.ofNat_inj]
/-- Is the list the clues with these numbers. -/
theorem ofNat_nth {α : Type} [Inhabited α] (cs : List α) (k : Nat) : nth cs (Int.ofNat k) = cs.getD k default := by simp [nth]

/-- The clues that say nothing new. -/
def idleTo (w s : Int) (cs : List Clue) (n : Nat) : List Int := ((List.range n).filter fun i => decide ((readL w s (cs.eraseIdx i)).length = (readL w s cs).length)).map Int.ofNat
theorem idleTo_yes {w s : Int} {cs : List Clue} {n : Int} (h0 : 0 ≤ n) (h : (readL w s (cs.eraseIdx n.toNat)).length = (readL w s cs).length) : idleTo w s cs (n + 1).toNat = idleTo w s cs n.toNat ++ [n] := by
  have e : (n + 1).toNat = n.toNat + 1 := by omega
  have e2 : ((n.toNat : Nat) : Int) = n := by omega
  rw [e]
  simp [idleTo, List.range_succ, List.filter_append, List.filter_cons, e2, h]
theorem idleTo_no {w s : Int} {cs : List Clue} {n : Int} (h0 : 0 ≤ n) (h : ¬ (readL w s (cs.eraseIdx n.toNat)).length = (readL w s cs).length) : idleTo w s cs (n + 1).toNat = idleTo w s cs n.toNat := by
  have e : (n + 1).toNat = n.toNat + 1 := by omega
  rw [e]
  simp [idleTo, List.range_succ, List.filter_append, List.filter_cons, h]
theorem idleTo_len (w s : Int) (cs : List Clue) (n : Nat) : (idleTo w s cs n).length ≤ n := by
  have := List.length_filter_le (fun i => decide ((readL w s (cs.eraseIdx i)).length = (readL w s cs).length)) (List.range n)
  simpa [idleTo] using this
/-- The clues below i that are kept. -/
def coreTo (w s : Int) (cs : List Clue) : Nat → List Nat
  | 0 => []
  | i + 1 => if (readL w s (pickN cs (coreTo w s cs i ++ restN cs.length (i + 1)))).length = (readL w s cs).length then coreTo w s cs i else coreTo w s cs i ++ [i]
theorem coreTo_lt (w s : Int) (cs : List Clue) : ∀ (i : Nat), ∀ k ∈ coreTo w s cs i, k < i
  | 0, k, h => by simp [coreTo] at h
  | i + 1, k, h => by
    unfold coreTo at h
    split at h
    · have := coreTo_lt w s cs i k h; omega
    · simp at h
      rcases h with h | rfl
      · have := coreTo_lt w s cs i k h; omega
      · omega
theorem coreTo_len (w s : Int) (cs : List Clue) : ∀ (i : Nat), (coreTo w s cs i).length ≤ i
  | 0 => by simp [coreTo]
  | i + 1 => by
    have := coreTo_len w s cs i
    unfold coreTo
    split
    · omega
    · simp; omega
/-- The numbers of those that are left. -/
def leftN (w s : Int) (cs : List Clue) (i : Nat) : List Nat := coreTo w s cs i ++ restN cs.length i
section
variable {w s : Int} {cs : List Clue} {i : Nat}
theorem leftN_len (h : i ≤ cs.length) : (leftN w s cs i).length ≤ cs.length := by
  have := coreTo_len w s cs i
  simp [leftN, restN_len]; omega
theorem leftN_lt : ∀ k ∈ leftN w s cs i, i ≤ cs.length → k < cs.length := by
  intro k hk h
  simp only [leftN, List.mem_append] at hk
  rcases hk with hk | hk
  · have := coreTo_lt w s cs i k hk; omega
  · exact (restN_mem hk).2
theorem leftN_era (h : i < cs.length) : (leftN w s cs i).eraseIdx (coreTo w s cs i).length = coreTo w s cs i ++ restN cs.length (i + 1) := by
  unfold leftN
  rw [restN_cons h, List.eraseIdx_append_of_length_le (by omega)]
  simp
theorem leftN_at (h : i < cs.length) : (coreTo w s cs i).length < (leftN w s cs i).length := by
  simp [leftN, restN_len]; omega
theorem leftN_yes (h : i < cs.length) (hr : (readL w s (pickN cs (coreTo w s cs i ++ restN cs.length (i + 1)))).length = (readL w s cs).length) : leftN w s cs (i + 1) = coreTo w s cs i ++ restN cs.length (i + 1) := by
  unfold leftN
  rw [coreTo, if_pos hr]
theorem leftN_no (h : i < cs.length) (hr : ¬ (readL w s (pickN cs (coreTo w s cs i ++ restN cs.length (i + 1)))).length = (readL w s cs).length) : leftN w s cs (i + 1) = leftN w s cs i := by
  unfold leftN
  rw [coreTo, if_neg hr, restN_cons h]
  simp
theorem leftN_zero : pickN cs (leftN w s cs 0) = cs := by
  unfold leftN
  rw [coreTo, restN_zero]
  exact pickN_all
theorem leftN_zeroG {gs : List Value} (hg : gs.length = cs.length) : pickN gs (leftN w s cs 0) = gs := by
  unfold leftN
  rw [coreTo, restN_zero, ← hg]
  exact pickN_all
theorem leftN_range : leftN w s cs 0 = List.range cs.length := by
  unfold leftN
  rw [coreTo, restN_zero]; simp
theorem coreTo_yes (hr : (readL w s (pickN cs (coreTo w s cs i ++ restN cs.length (i + 1)))).length = (readL w s cs).length) : coreTo w s cs (i + 1) = coreTo w s cs i := by rw [coreTo, if_pos hr]
theorem coreTo_no (hr : ¬ (readL w s (pickN cs (coreTo w s cs i ++ restN cs.length (i + 1)))).length = (readL w s cs).length) : coreTo w s cs (i + 1) = coreTo w s cs i ++ [i] := by rw [coreTo, if_neg hr]
theorem leftN_end : leftN w s cs cs.length = coreTo w s cs cs.length := by unfold leftN; rw [restN_end]; simp
theorem leftN_filter (h : i < cs.length) : (leftN w s cs i).filter (fun k => decide (k ≠ i)) = coreTo w s cs i ++ restN cs.length (i + 1) := by
  unfold leftN
  rw [restN_cons h, List.filter_append, List.filter_cons]
  have f1 : (coreTo w s cs i).filter (fun k => decide (k ≠ i)) = coreTo w s cs i := by
    rw [List.filter_eq_self]
    intro a ha
    have := coreTo_lt w s cs i a ha
    simp; omega
  have f2 : (restN cs.length (i + 1)).filter (fun k => decide (k ≠ i)) = restN cs.length (i + 1) := by
    rw [List.filter_eq_self]
    intro a ha
    have := restN_mem ha
    simp; omega
  rw [f1, f2]
  simp
end

def prE (w s : Int) (cs : List Clue) : Int := if cluesE w s cs = 0 then (if (readL w s cs).length < 2 then 3 else 0) else cluesE w s cs
/-- Clues that are picked out of others, in a new row. -/
theorem ClS.pick {u : World} {v v' : Value} {cs : List Clue} {gs : List Value} (h : ClS u v cs gs) {ns : List Nat} (hn : ∀ k ∈ ns, k < cs.length) (hs : SlC u v' (pickN cs ns).length 7 (clFlat (pickN cs ns) (pickN gs ns))) : ClS u v' (pickN cs ns) (pickN gs ns) := by
  refine ⟨hs, by simp [pickN_len], fun i h0 h1 => ?_⟩
  rw [pickN_len] at h1
  have hlt : i.toNat < ns.length := by omega
  have hk := hn _ (List.getElem_mem hlt)
  have e1 : nth (pickN cs ns) i = nth cs ((ns[i.toNat] : Nat) : Int) := by simp [nth, List.getD, pickN, hlt]
  have e2 : nth (pickN gs ns) i = nth gs ((ns[i.toNat] : Nat) : Int) := by simp [nth, List.getD, pickN, hlt]
  rw [e1, e2]
  exact h.el _ (by omega) (by omega)
theorem era_pick {α : Type} [Inhabited α] (cs : List α) (i : Nat) : cs.eraseIdx i = pickN cs ((List.range cs.length).eraseIdx i) := by rw [pickN_era, pickN_all]
theorem range_era_lt {n i : Nat} : ∀ k ∈ (List.range n).eraseIdx i, k < n := fun k hk => by
  have := List.mem_of_mem_eraseIdx hk
  simpa using this
theorem ClS.era {u : World} {v v' : Value} {cs : List Clue} {gs : List Value} (h : ClS u v cs gs) {i : Nat} (hs : SlC u v' (cs.eraseIdx i).length 7 (clFlat (cs.eraseIdx i) (gs.eraseIdx i))) : ClS u v' (cs.eraseIdx i) (gs.eraseIdx i) := by
  have e2 : gs.eraseIdx i = pickN gs ((List.range cs.length).eraseIdx i) := by rw [← h.len]; exact era_pick gs i
  rw [era_pick cs i, e2] at hs ⊢
  exact h.pick range_era_lt hs
theorem pick_one {gs : List Value} {ns : List Nat} (hg : ∀ g ∈ gs, g.oneCell' = true) (hn : ∀ k ∈ ns, k < gs.length) : ∀ g ∈ pickN gs ns, g.oneCell' = true := fun g h => hg g (pickN_mem hn h)
section
variable {P : Program} {ro : Option Nat} {n0 : Nat} {w0 : World} {ds : List Deferred} {ops : Array Oper} {Q : Exit → Act → World → Prop} {L : List SA}
  {rest : List Oper} {l : List Value} {d : Option Tmp} {ty : TypeId} {ps : String} {af : Array Edge} {g : Option (Nat × Bool)} {C : World → Prop}
theorem WS.callS {β : Type} {f : Operand} {args : List Operand} {ts : Array TypeId} {fn : FuncId} {cap : List Value} {vs : List Value} {v : β → Value} {L' : β → List SA} {p : β → Prop} {i : Nat} {l' : β → List Value}
    (hf : evo l f = some (.func (.func fn) #[] cap.toArray)) (hv : evs l args = some vs) (he : Ent P fn)
    (hc : ∀ u, St n0 w0 L u → Calls P fn (vs ++ cap).toArray u (fun e u' => ∃ x, p x ∧ e = .returned (v x) ∧ St n0 w0 (L' x) u'))
    (hl : ∀ x, lset l i (v x) = some (l' x)) (k : ∀ x, p x → WS P ro n0 w0 ds ops Q (L' x) rest (l' x)) :
    WS P ro n0 w0 ds ops Q L (⟨some i, .call ⟨.value f, args.toArray, ts⟩, ty, ps, af, none⟩ :: rest) l := by
  intro u hu
  unfold wpListIn
  rw [if_pos (by simp [Region.wanted])]
  refine ⟨fun _ _ => trivial, ?_⟩
  rw [semAt_calm rfl, eval_ev]
  have hr : (execOp (ev l) ⟨some i, .call ⟨.value f, args.toArray, ts⟩, ty, ps, af, none⟩).run P u = .ok (.enter fn (vs ++ cap).toArray) u := by
    have h1 : ∀ (args : Array Value) (w : World), Sem.run P (callFunc fn args) w = .ok (.enter fn args) w := he
    replace hf := ev_of hf
    replace hv := evs_of hv
    subst hv
    simp [execOp, hf, resolve, invoke, Deferred.ofValue, h1]
  rw [hr]
  refine ⟨fun h => by simp [FW] at h, callsIn_FW ((hc u hu).mono ?_)⟩
  rintro e u' ⟨x, hp, rfl, hs⟩
  show wpListIn (FW ro) 0 P ops Q rest ((Act.mk l.toArray ds).put (some i) (v x)) u'
  rw [put_some, lset_of (hl x)]
  exact k x hp u' hs
theorem ev_nestT {x : Operand} {v : Value} {c b : Bool} (hg : c = true) (h : evo l x = some (cond (c && (b == true)) v undef)) : evo l x = some (cond b v undef) := by subst hg; cases b <;> exact h
theorem ev_nestF {x : Operand} {v : Value} {c b : Bool} (hg : c = true) (h : evo l x = some (cond (c && (b == false)) v undef)) : evo l x = some (cond (!b) v undef) := by subst hg; cases b <;> exact h
theorem WS.appendNil {T e : TypeId} {k by_ i n : Nat} {x y : Operand} {z : Value} {news zc : List Value} (hT : sl P T = some (e, k, by_)) (hz : zv P e = some zc) (hzl : zc.length = k) (hs0 : 0 < k)
    (hx : evo l x = some (.slice none 0 0)) (hy : evo l y = some z) (hnews : ∀ u, St n0 w0 L u → SlC u z n k news) (h1 : ∀ a ∈ news, a.oneCell' = true)
    (hm : n ≤ 9223372036854775807) (hb : n * by_ ≤ 140737488355328)
    {l' : Value → List Value} (hl : ∀ v, lset l i v = some (l' v)) (kk : ∀ v', v'.oneCell' = true → WS P ro n0 w0 ds ops Q (osl e k v' n news :: L) rest (l' v')) :
    WS P ro n0 w0 ds ops Q L (⟨some i, .call ⟨.builtin .append, #[x, y], #[T, T]⟩, ty, ps, af, none⟩ :: rest) l := by
  refine WS.weak (fun _ hu => hu.osl0 (e := e) (size := k)) ?_
  refine WS.append (j := 0) (n := 0) (m := n) (xs := []) hT hz hzl hs0 hx rfl hy (fun u hu => hnews u hu.tail) h1 (by omega) (by rw [Nat.zero_add]; exact hb) hl (fun _ => rfl) fun v' => ?_
  rw [Nat.zero_add, List.nil_append]
  exact WS.oc (j := 0) rfl (kk v')
theorem clFlat_one1 (c : Clue) (g : Value) : clFlat [c] [g] = clCells c g := by simp [clFlat]
theorem clFlat_snoc {cs : List Clue} {gs : List Value} (h : gs.length = cs.length) (c : Clue) (g : Value) : clFlat cs gs ++ clCells c g = clFlat (cs ++ [c]) (gs ++ [g]) := by
  rw [← clFlat_one1, clFlat_app h]
theorem WS.buildC1 {T e : TypeId} {by_ i : Nat} {x : Operand} {c : Clue} {gv : Value} {zc : List Value} (hT : sl P T = some (e, 7, by_)) (hz : zv P e = some zc) (hx : evo l x = some (.agg (clCells c gv).toArray))
    {l' : Value → List Value} (hl : ∀ v, lset l i v = some (l' v)) (kk : ∀ v, WS P ro n0 w0 ds ops Q (osl e 7 v 1 (clCells c gv) :: L) rest (l' v)) :
    WS P ro n0 w0 ds ops Q L (⟨some i, .buildSlice T 1 #[(0, x)], ty, ps, af, none⟩ :: rest) l := by
  refine WS.buildSliceK (pl := [(0, x)]) (rows := [clCells c gv]) (k := 7) hT hz (by simp [ev_of hx]) rfl (by decide) (by decide) (by simp [clCells]) hl fun v => ?_
  have := kk v
  simpa using this
theorem WS.appendCl {T e : TypeId} {by_ i j jz : Nat} {x y : Operand} {v z gv : Value} {c : Clue} {cs : List Clue} {gs zc : List Value} (hT : sl P T = some (e, 7, by_)) (hz : zv P e = some zc) (hzl : zc.length = 7)
    (hx : evo l x = some v) (hj : L[j]? = some (osl e 7 v cs.length (clFlat cs gs))) (hg : gs.length = cs.length) (hy : evo l y = some z) (hjz : L[jz]? = some (osl e 7 z 1 (clCells c gv))) (h1 : gv.oneCell' = true)
    (hm : cs.length + 1 ≤ 9223372036854775807) (hb : (cs.length + 1) * by_ ≤ 140737488355328)
    {l' : Value → List Value} (hl : ∀ v, lset l i v = some (l' v)) {L' : Value → List SA} (hL : ∀ v', lset L j (osl e 7 v' (cs ++ [c]).length (clFlat (cs ++ [c]) (gs ++ [gv]))) = some (L' v')) (k : ∀ v', v'.oneCell' = true → WS P ro n0 w0 ds ops Q (L' v') rest (l' v')) :
    WS P ro n0 w0 ds ops Q L (⟨some i, .call ⟨.builtin .append, #[x, y], #[T, T]⟩, ty, ps, af, none⟩ :: rest) l := by
  refine WS.append hT hz hzl (by decide) hx hj hy (m := 1) (fun u hu => osl_SlC hu hjz) (fun a ha => ?_) hm hb hl (L' := L') (fun v' => ?_) fun v' => ?_
  · simp only [clCells, List.mem_cons, List.not_mem_nil, or_false] at ha
    rcases ha with rfl | rfl | rfl | rfl | rfl | rfl | rfl <;> first | rfl | exact h1
  · rw [← hL v', clFlat_snoc hg]; simp
  · have hjl := (List.getElem?_eq_some_iff.1 hj).1
    have h2 := (lset_of (hL v')).symm
    refine WS.oc (j := j) (v := v') (e := e) (k := 7) (n := (cs ++ [c]).length) (xs := clFlat (cs ++ [c]) (gs ++ [gv])) (by rw [h2, List.getElem?_set_self hjl]) (k v')
theorem fil_snocI {p : Nat → Bool} (ks : List Nat) {i : Int} (h0 : 0 ≤ i) (h1 : i < ks.length) :
    ((ks.take (i + 1).toNat).filter p).map Int.ofNat = ((ks.take i.toNat).filter p).map Int.ofNat ++ (if p (ks.getD i.toNat 0) = true then [nth (ks.map Int.ofNat) i] else []) := by
  have e : (i + 1).toNat = i.toNat + 1 := by omega
  have hlt : i.toNat < ks.length := by omega
  have e2 : ks.getD i.toNat 0 = ks[i.toNat] := by simp [List.getD, hlt]
  have e3 : nth (ks.map Int.ofNat) i = ((ks[i.toNat] : Nat) : Int) := by simp [nth, List.getD, hlt]
  rw [e, List.take_succ_eq_append_getElem hlt, List.filter_append, List.map_append, e2, e3]
  by_cases hp : p ks[i.toNat] = true
  · simp [List.filter_cons, hp]
  · simp [List.filter_cons, hp]
theorem retP {v1 v2 t : Value} {A B : List Int} {f : Value × Value → Value} (hp : ∀ S u, Star L S u → SlI u v1 A ∧ SlI u v2 B) (hf : t = f (v1, v2)) :
    ∀ u, St w0.heap.size w0 L u → ∃ x : Value × Value, (∃ u0, SlI u0 x.1 A ∧ SlI u0 x.2 B) ∧ RetF w0 (f x) (roS fun u => SlI u x.1 A ∧ SlI u x.2 B) (.returned t) u := by
  subst hf
  exact fun u hu => ⟨(v1, v2), ⟨u, hp _ _ hu.star⟩, retR hp u hu⟩
theorem roPl {v1 v2 : Value} {A B : List Int} {j : Nat} {u : World} (hj : L[j]? = some (roS fun u => SlI u v1 A ∧ SlI u v2 B)) (h : St n0 w0 L u) : SlI u v1 A := (h.ro hj : SlI u v1 A ∧ SlI u v2 B).1
theorem roPr {v1 v2 : Value} {A B : List Int} {j : Nat} {u : World} (hj : L[j]? = some (roS fun u => SlI u v1 A ∧ SlI u v2 B)) (h : St n0 w0 L u) : SlI u v2 B := (h.ro hj : SlI u v1 A ∧ SlI u v2 B).2
theorem SlI.none (u : World) : SlI u (.slice none 0 0) [] := ⟨by simp, Option.none, 0, rfl, by simp, Or.inl rfl⟩
theorem ofNat_at (ks : List Nat) {i : Int} (h0 : 0 ≤ i) (h1 : i < ks.length) : nth (ks.map Int.ofNat) i = ((ks.getD i.toNat 0 : Nat) : Int) := by
  have : i.toNat < ks.length := by omega
  simp [nth, List.getD, this]
theorem pick_snoc {α : Type} [Inhabited α] (cs : List α) (ks : List Nat) {i : Int} (h0 : 0 ≤ i) (h1 : i < ks.length) : pickN cs (ks.take (i + 1).toNat) = pickN cs (ks.take i.toNat) ++ [nth cs (nth (ks.map Int.ofNat) i)] := by
  have e : (i + 1).toNat = i.toNat + 1 := by omega
  have hlt : i.toNat < ks.length := by omega
  rw [e, List.take_succ_eq_append_getElem hlt, pickN_app, ofNat_at ks h0 h1]
  congr 1
  simp [pickN, nth, List.getD, hlt]
end
end Go.Proofs.Ytldagbcceefcdaa

