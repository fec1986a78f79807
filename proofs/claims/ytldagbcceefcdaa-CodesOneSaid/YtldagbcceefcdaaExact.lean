/- Plain laws on readings: a further clue and its opposite; the order of codes; which codes are listed. No program in sight. -/
import Derived.Test.YtldagbcceefcdaaCore
namespace Go.Proofs.Ytldagbcceefcdaa
set_option linter.unusedVariables false
set_option linter.unusedSimpArgs false
open Go.RowKit

theorem idxF_neg {α : Type} (p : α → Bool) (xs : List α) : decide (idxF p xs < 0) = !xs.any p := by
  have := idxF_any (p := p) (xs := xs)
  rw [← this]
  by_cases h : 0 ≤ idxF p xs
  · simp [h]
  · simp [h]; omega
theorem idxF_m1 {α : Type} {p : α → Bool} {xs : List α} (h : idxF p xs < 0) : idxF p xs = -1 := by
  unfold idxF at h ⊢
  cases hf : xs.findIdx? p with
  | none => rfl
  | some i => rw [hf] at h; simp at h; omega
theorem fitB_all (cs : List Clue) (xs : List Int) : fitB cs xs = cs.all fun c => holdsT c xs := by
  unfold fitB failsT
  rw [idxF_neg, List.not_any_eq_all_not]
  simp
theorem fitB_snoc (cs : List Clue) (c : Clue) (xs : List Int) : fitB (cs ++ [c]) xs = (fitB cs xs && holdsT c xs) := by
  rw [fitB_all, fitB_all]; simp
theorem readL_eq (w s : Int) (cs : List Clue) : readL w s cs = (allC w s).filter (fitB cs) := rfl
theorem readL_snoc (w s : Int) (cs : List Clue) (c : Clue) : readL w s (cs ++ [c]) = (readL w s cs).filter (holdsT c) := by
  rw [readL_eq, readL_eq, List.filter_filter]
  congr 1
  funext x
  rw [fitB_snoc, Bool.and_comm]
def opp (c : Clue) : Clue := { c with nt := !c.nt }
theorem holds_opp (c : Clue) (xs : List Int) : holdsT (opp c) xs = !holdsT c xs := by
  have : plainT (opp c) xs = plainT c xs := rfl
  unfold holdsT
  rw [this]
  show (plainT c xs != !c.nt) = !(plainT c xs != c.nt)
  cases plainT c xs <;> cases c.nt <;> rfl
theorem clueB_opp (w s : Int) (c : Clue) : clueB w s (opp c) = clueB w s c := rfl
theorem filter_both {α : Type} (p : α → Bool) : ∀ (L : List α), (L.filter p).length + (L.filter fun x => !p x).length = L.length
  | [] => rfl
  | x :: L => by
    have := filter_both p L
    cases h : p x <;> simp [List.filter_cons, h] <;> omega
theorem read_split (w s : Int) (cs : List Clue) (c : Clue) : (readL w s (cs ++ [c])).length + (readL w s (cs ++ [opp c])).length = (readL w s cs).length := by
  rw [readL_snoc, readL_snoc]
  have : (holdsT (opp c)) = fun x => !holdsT c x := funext (holds_opp c)
  rw [this]
  exact filter_both _ _
theorem cluesE_snoc {w s : Int} {cs : List Clue} {c : Clue} (h : cluesE w s cs = 0) (hc : clueB w s c = true) (hn : cs.length < 20) : cluesE w s (cs ++ [c]) = 0 := by
  have hL := cluesE_lock h
  have hC := cluesE_clue h
  have h1 : (cs ++ [c]).all (clueB w s) = true := by
    rw [List.all_append, List.all_eq_true.2 hC]; simp [hc]
  have h2 : ¬ 20 < (((cs ++ [c]).length : Nat) : Int) := by simp; omega
  simp only [cluesE, hL, h1, h2, if_true, if_false]

/-! ### the order of codes -/
def beforeB : List Int → List Int → Bool
  | x :: xs, y :: ys => if x = y then beforeB xs ys else decide (x < y)
  | _, _ => false
theorem before_nil (ys : List Int) : beforeB [] ys = false := rfl
theorem before_self : ∀ xs : List Int, beforeB xs xs = false
  | [] => rfl
  | x :: xs => by simp [beforeB, before_self xs]
theorem before_snoc : ∀ (as bs : List Int) (a b : Int), as.length = bs.length → beforeB (as ++ [a]) (bs ++ [b]) = (beforeB as bs || (decide (as = bs) && decide (a < b)))
  | [], [], a, b, _ => by
    by_cases h : a = b
    · subst h; simp [beforeB]
    · simp [beforeB, h]
  | x :: as, y :: bs, a, b, h => by
    have ih := before_snoc as bs a b (by simpa using h)
    simp only [List.cons_append, beforeB]
    by_cases hxy : x = y
    · subst hxy; simp [ih]
    · simp [hxy]
  | [], _ :: _, _, _, h => by simp at h
  | _ :: _, [], _, _, h => by simp at h
theorem before_asym : ∀ (xs ys : List Int), beforeB xs ys = true → beforeB ys xs = false
  | [], ys, h => by simp [beforeB] at h
  | _ :: _, [], h => by simp [beforeB] at h
  | x :: xs, y :: ys, h => by
    simp only [beforeB] at h ⊢
    by_cases hxy : x = y
    · subst hxy; simp only [if_true] at h ⊢; exact before_asym xs ys h
    · rw [if_neg hxy] at h
      rw [if_neg (fun e => hxy e.symm)]
      simp at h ⊢
      omega
theorem digs_before : ∀ (k : Nat) (s n m : Int), 0 < s → 0 ≤ n → n < m → m < s ^ k → beforeB (digs k s n) (digs k s m) = true
  | 0, s, n, m, _, h0, h1, h2 => by simp at h2; omega
  | k + 1, s, n, m, hs, h0, h1, h2 => by
    simp only [digs]
    rw [before_snoc _ _ _ _ (by simp [digs_len])]
    have hd1 := Int.mul_ediv_add_emod n s
    have hd2 := Int.mul_ediv_add_emod m s
    have hn1 := Int.emod_nonneg n (show s ≠ 0 by omega)
    have hn2 := Int.emod_lt_of_pos n hs
    have hm1 := Int.emod_nonneg m (show s ≠ 0 by omega)
    have hm2 := Int.emod_lt_of_pos m hs
    have hle : n / s ≤ m / s := Int.ediv_le_ediv hs (by omega)
    rcases Int.lt_or_eq_of_le hle with hlt | heq
    · have hmk : m / s < s ^ k := by
        rw [Int.ediv_lt_iff_lt_mul hs]
        rw [Int.pow_succ] at h2
        exact h2
      rw [digs_before k s (n / s) (m / s) hs (Int.ediv_nonneg h0 (by omega)) hlt hmk]
      simp
    · rw [heq]
      have : n % s < m % s := by rw [heq] at hd1; omega
      simp [this]
theorem allC_sorted {w s : Int} (hL : lockB w s = true) : (allC w s).Pairwise fun a b => beforeB a b = true := by
  have hl := lock_of hL
  unfold allC
  rw [List.pairwise_map]
  refine List.Pairwise.imp_of_mem ?_ (List.pairwise_lt_range (n := manyC w s))
  intro a b ha hb hab
  have hb' : b < manyC w s := by simpa using hb
  have hp := manyC_pow (w := w) (s := s) (by omega)
  exact digs_before w.toNat s a b (by omega) (by omega) (by omega) (by omega)
theorem readL_sorted {w s : Int} (hL : lockB w s = true) (cs : List Clue) : (readL w s cs).Pairwise fun a b => beforeB a b = true := (allC_sorted hL).filter _
theorem readL_before {w s : Int} (hL : lockB w s = true) (cs : List Clue) {i j : Int} (h0 : 0 ≤ i) (h1 : i < j) (h2 : j < (readL w s cs).length) : beforeB (nth (readL w s cs) i) (nth (readL w s cs) j) = true := by
  have h := List.pairwise_iff_getElem.1 (readL_sorted hL cs) i.toNat j.toNat (by omega) (by omega) (by omega)
  have e1 : i.toNat < (readL w s cs).length := by omega
  have e2 : j.toNat < (readL w s cs).length := by omega
  simpa [nth, List.getD, e1, e2] using h
/-- The number that digits spell. -/
def numOf (s : Int) : List Int → Int
  | [] => 0
  | x :: xs => x * s ^ xs.length + numOf s xs
theorem numOf_snoc (s : Int) : ∀ (xs : List Int) (a : Int), numOf s (xs ++ [a]) = numOf s xs * s + a
  | [], a => by simp [numOf]
  | x :: xs, a => by
    simp only [List.cons_append, numOf, numOf_snoc s xs a, List.length_append, List.length_cons, List.length_nil]
    rw [Int.pow_succ, Int.add_mul, Int.mul_assoc]
    omega
theorem digs_num (s : Int) (hs : 0 < s) : ∀ (k : Nat) (xs : List Int), xs.length = k → (∀ x ∈ xs, 0 ≤ x ∧ x ≤ s - 1) → digs k s (numOf s xs) = xs ∧ 0 ≤ numOf s xs ∧ numOf s xs < s ^ k
  | 0, xs, hl, _ => by
    have : xs = [] := List.eq_nil_of_length_eq_zero hl
    subst this; simp [digs, numOf]
  | k + 1, xs, hl, hx => by
    obtain ⟨ys, a, rfl⟩ : ∃ ys a, xs = ys ++ [a] := by
      refine ⟨xs.dropLast, xs.getLast (by intro e; simp [e] at hl), ?_⟩
      exact (List.dropLast_concat_getLast _).symm
    have ha := hx a (by simp)
    obtain ⟨h1, h2, h3⟩ := digs_num s hs k ys (by simpa using hl) (fun x hx' => hx x (by simp [hx']))
    rw [numOf_snoc]
    have hd : (numOf s ys * s + a) / s = numOf s ys := by
      rw [Int.mul_comm, Int.mul_add_ediv_left _ _ (by omega), Int.ediv_eq_zero_of_lt ha.1 (by omega)]; omega
    have hm : (numOf s ys * s + a) % s = a := by
      rw [Int.mul_comm, Int.mul_add_emod_self_left, Int.emod_eq_of_lt ha.1 (by omega)]
    refine ⟨by simp only [digs, hd, hm, h1], ?_, ?_⟩
    · have := Int.mul_nonneg h2 (show 0 ≤ s by omega); omega
    · rw [Int.pow_succ]
      have : (numOf s ys + 1) * s ≤ s ^ k * s := Int.mul_le_mul_of_nonneg_right (by omega) (by omega)
      rw [Int.add_mul] at this
      omega
theorem mem_allC {w s : Int} (hL : lockB w s = true) {xs : List Int} (h : codeB w s xs = true) : xs ∈ allC w s := by
  have hl := lock_of hL
  have h1 := code_of h
  obtain ⟨h2, h3, h4⟩ := digs_num s (by omega) w.toNat xs (by omega) h1.2
  have hp := manyC_pow (w := w) (s := s) (by omega)
  unfold allC
  rw [List.mem_map]
  refine ⟨(numOf s xs).toNat, by simp; omega, ?_⟩
  unfold codeAt
  rw [show (((numOf s xs).toNat : Nat) : Int) = numOf s xs by omega]
  exact h2
theorem mem_readL {w s : Int} (hL : lockB w s = true) {cs : List Clue} {xs : List Int} (h : codeB w s xs = true) : xs ∈ readL w s cs ↔ failsT cs xs < 0 := by
  rw [readL_eq, List.mem_filter]
  simp [fitB, mem_allC hL h]
theorem drop_cons {xs : List Int} {s : Int} (h0 : 0 ≤ s) (h1 : s < xs.length) : xs.drop s.toNat = nth xs s :: xs.drop (s + 1).toNat := by
  have hlt : s.toNat < xs.length := by omega
  have e : (s + 1).toNat = s.toNat + 1 := by omega
  rw [e, List.drop_eq_getElem_cons hlt]
  simp [nth, List.getD, hlt]
theorem before_step {xs ys : List Int} {s : Int} (h0 : 0 ≤ s) (h1 : s < xs.length) (h2 : s < ys.length) : beforeB (xs.drop s.toNat) (ys.drop s.toNat) = if nth xs s = nth ys s then beforeB (xs.drop (s + 1).toNat) (ys.drop (s + 1).toNat) else decide (nth xs s < nth ys s) := by
  rw [drop_cons h0 h1, drop_cons h0 h2]; rfl
theorem before_out {xs ys : List Int} {s : Int} (h : (xs.length : Int) ≤ s ∨ (ys.length : Int) ≤ s) : beforeB (xs.drop s.toNat) (ys.drop s.toNat) = false := by
  rcases h with h | h
  · rw [List.drop_eq_nil_of_le (by omega)]; rfl
  · rw [List.drop_eq_nil_of_le (as := ys) (by omega)]
    cases xs.drop s.toNat <;> rfl
theorem ClS.snoc {u : World} {v v' gv : Value} {cs : List Clue} {gs : List Value} {c : Clue} (h : ClS u v cs gs) (hg : SlI u gv c.g) (hs : SlC u v' (cs ++ [c]).length 7 (clFlat (cs ++ [c]) (gs ++ [gv]))) : ClS u v' (cs ++ [c]) (gs ++ [gv]) := by
  refine ⟨hs, by simp [h.len], fun i h0 h1 => ?_⟩
  have hl := h.len
  by_cases hi : i < cs.length
  · have e1 : nth (cs ++ [c]) i = nth cs i := by unfold nth; rw [List.getD, List.getD, List.getElem?_append_left (by omega)]
    have e2 : nth (gs ++ [gv]) i = nth gs i := by unfold nth; rw [List.getD, List.getD, List.getElem?_append_left (by omega)]
    rw [e1, e2]
    exact h.el i h0 hi
  · have hi2 : i.toNat = cs.length := by simp at h1; omega
    have e1 : nth (cs ++ [c]) i = c := by simp [nth, List.getD, hi2]
    have e2 : nth (gs ++ [gv]) i = gv := by simp [nth, List.getD, hi2, ← hl]
    rw [e1, e2]
    exact hg
theorem nth_take {α : Type} [Inhabited α] (xs : List α) {m : Nat} {i : Int} (h0 : 0 ≤ i) (h1 : i < (xs.take m).length) : nth (xs.take m) i = nth xs i := by
  have : i.toNat < m := by simp at h1; omega
  simp [nth, List.getD, List.getElem?_take, this]
theorem exact_end {w s : Int} {cs : List Clue} {xs : List Int} {m : Nat} (hm : 0 < m) (hL : lockB w s = true) (hx : codeB w s xs = true) :
    (decide (failsT cs xs < 0) == ((readL w s cs).take m).any (fun y => decide (y = xs)) ||
      decide (failsT cs xs < 0) && (decide (((readL w s cs).length : Int) > ((readL w s cs).take m).length) && !beforeB xs (nth ((readL w s cs).take m) (((readL w s cs).take m).length - 1)))) = true := by
  by_cases hf : failsT cs xs < 0
  · rw [decide_eq_true hf]
    by_cases hl : ((readL w s cs).take m).any (fun y => decide (y = xs)) = true
    · simp [hl]
    · have hl' : ((readL w s cs).take m).any (fun y => decide (y = xs)) = false := by
        cases h : ((readL w s cs).take m).any (fun y => decide (y = xs)) with
        | false => rfl
        | true => exact absurd h hl
      rw [hl']
      have hmem := (mem_readL (cs := cs) hL hx).2 hf
      obtain ⟨j, h0, h1, hj⟩ := mem_nth hmem
      have hjm : (m : Int) ≤ j := by
        rcases Int.lt_or_le j m with h | h
        · exfalso
          apply hl
          rw [List.any_eq_true]
          refine ⟨xs, ?_, by simp⟩
          have h3 : j < (((readL w s cs).take m).length : Int) := by simp; omega
          rw [← hj, ← nth_take (readL w s cs) h0 h3]
          exact nth_mem h0 h3
        · exact h
      have hlen : ((readL w s cs).take m).length = m := by rw [List.length_take]; omega
      have hb := readL_before hL cs (i := (m : Int) - 1) (j := j) (by omega) (by omega) h1
      have he : nth ((readL w s cs).take m) ((((readL w s cs).take m).length : Int) - 1) = nth (readL w s cs) ((m : Int) - 1) := by
        rw [nth_take _ (by omega) (by omega), hlen]
      rw [he, ← hj, before_asym _ _ hb, hlen]
      simp; omega
  · rw [decide_eq_false hf]
    have hl : ((readL w s cs).take m).any (fun y => decide (y = xs)) = false := by
      rw [List.any_eq_false]
      intro y hy
      simp
      rintro rfl
      exact hf ((mem_readL hL hx).1 (List.mem_of_mem_take hy))
    rw [hl]; rfl

end Go.Proofs.Ytldagbcceefcdaa
