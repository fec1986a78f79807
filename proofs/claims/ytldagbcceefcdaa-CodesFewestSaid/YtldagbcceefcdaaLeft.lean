import Derived.Test.YtldagbcceefcdaaCore
/- part Exact -/
/- Plain laws on readings: a further clue and its opposite; the order of codes; which codes are listed. No program in sight. -/
namespace Go.Proofs.Ytldagbcceefcdaa
set_option linter.unusedVariables false
set_option linter.unusedSimpArgs false
open Go.RowKit

theorem idxF_neg {α : Type} (p : α → Bool) (xs : List α) : decide (idxF p xs < 0) = !xs.any p := by
  have := idxF_any (p := p) (xs := xs)
  rw [← this]
  by_cases h : 0 ≤ idxF p xs
  · simp [h]
  · simp [h]; omega
theorem idxF_m1 {α : Type} {p : α → Bool} {xs : List α} (h : idxF p xs < 0) : idxF p xs = -1 := by
  unfold idxF at h ⊢
  cases hf : xs.findIdx? p with
  | none => rfl
  | some i => rw [hf] at h; simp at h; omega
theorem fitB_all (cs : List Clue) (xs : List Int) : fitB cs xs = cs.all fun c => holdsT c xs := by
  unfold fitB failsT
  rw [idxF_neg, List.not_any_eq_all_not]
  simp
theorem fitB_snoc (cs : List Clue) (c : Clue) (xs : List Int) : fitB (cs ++ [c]) xs = (fitB cs xs && holdsT c xs) := by
  rw [fitB_all, fitB_all]; simp
theorem readL_eq (w s : Int) (cs : List Clue) : readL w s cs = (allC w s).filter (fitB cs) := rfl
theorem readL_snoc (w s : Int) (cs : List Clue) (c : Clue) : readL w s (cs ++ [c]) = (readL w s cs).filter (holdsT c) := by
  rw [readL_eq, readL_eq, List.filter_filter]
  congr 1
  funext x
  rw [fitB_snoc, Bool.and_comm]
def opp (c : Clue) : Clue := { c with nt := !c.nt }
theorem holds_opp (c : Clue) (xs : List Int) : holdsT (opp c) xs = !holdsT c xs := by
  have : plainT (opp c) xs = plainT c xs := rfl
  unfold holdsT
  rw [this]
  show (plainT c xs != !c.nt) = !(plainT c xs != c.nt)
  cases plainT c xs <;> cases c.nt <;> rfl
theorem clueB_opp (w s : Int) (c : Clue) : clueB w s (opp c) = clueB w s c := rfl
theorem filter_both {α : Type} (p : α → Bool) : ∀ (L : List α), (L.filter p).length + (L.filter fun x => !p x).length = L.length
  | [] => rfl
  | x :: L => by
    have := filter_both p L
    cases h : p x <;> simp [List.filter_cons, h] <;> omega
theorem read_split (w s : Int) (cs : List Clue) (c : Clue) : (readL w s (cs ++ [c])).length + (readL w s (cs ++ [opp c])).length = (readL w s cs).length := by
  rw [readL_snoc, readL_snoc]
  have : (holdsT (opp c)) = fun x => !holdsT c x := funext (holds_opp c)
  rw [this]
  exact filter_both _ _
theorem cluesE_snoc {w s : Int} {cs : List Clue} {c : Clue} (h : cluesE w s cs = 0) (hc : clueB w s c = true) (hn : cs.length < 20) : cluesE w s (cs ++ [c]) = 0 := by
  have hL := cluesE_lock h
  have hC := cluesE_clue h
  have h1 : (cs ++ [c]).all (clueB w s) = true := by
    rw [List.all_append, List.all_eq_true.2 hC]; simp [hc]
  have h2 : ¬ 20 < (((cs ++ [c]).length : Nat) : Int) := by simp; omega
  simp only [cluesE, hL, h1, h2, if_true, if_false]

/-! ### the order of codes -/
def beforeB : List Int → List Int → Bool
  | x :: xs, y :: ys => if x = y then beforeB xs ys else decide (x < y)
  | _, _ => false
theorem before_nil (ys : List Int) : beforeB [] ys = false := rfl
theorem before_self : ∀ xs : List Int, beforeB xs xs = false
  | [] => rfl
  | x :: xs => by simp [beforeB, before_self xs]
theorem before_snoc : ∀ (as bs : List Int) (a b : Int), as.length = bs.length → beforeB (as ++ [a]) (bs ++ [b]) = (beforeB as bs || (decide (as = bs) && decide (a < b)))
  | [], [], a, b, _ => by
    by_cases h : a = b
    · subst h; simp [beforeB]
    · simp [beforeB, h]
  | x :: as, y :: bs, a, b, h => by
    have ih := before_snoc as bs a b (by simpa using h)
    simp only [List.cons_append, beforeB]
    by_cases hxy : x = y
    · subst hxy; simp [ih]
    · simp [hxy]
  | [], _ :: _, _, _, h => by simp at h
  | _ :: _, [], _, _, h => by simp at h
theorem before_asym : ∀ (xs ys : List Int), beforeB xs ys = true → beforeB ys xs = false
  | [], ys, h => by simp [beforeB] at h
  | _ :: _, [], h => by simp [beforeB] at h
  | x :: xs, y :: ys, h => by
    simp only [beforeB] at h ⊢
    by_cases hxy : x = y
    · subst hxy; simp only [if_true] at h ⊢; exact before_asym xs ys h
    · rw [if_neg hxy] at h
      rw [if_neg (fun e => hxy e.symm)]
      simp at h ⊢
      omega
theorem digs_before : ∀ (k : Nat) (s n m : Int), 0 < s → 0 ≤ n → n < m → m < s ^ k → beforeB (digs k s n) (digs k s m) = true
  | 0, s, n, m, _, h0, h1, h2 => by simp at h2; omega
  | k + 1, s, n, m, hs, h0, h1, h2 => by
    simp only [digs]
    rw [before_snoc _ _ _ _ (by simp [digs_len])]
    have hd1 := Int.mul_ediv_add_emod n s
    have hd2 := Int.mul_ediv_add_emod m s
    have hn1 := Int.emod_nonneg n (show s ≠ 0 by omega)
    have hn2 := Int.emod_lt_of_pos n hs
    have hm1 := Int.emod_nonneg m (show s ≠ 0 by omega)
    have hm2 := Int.emod_lt_of_pos m hs
    have hle : n / s ≤ m / s := Int.ediv_le_ediv hs (by omega)
    rcases Int.lt_or_eq_of_le hle with hlt | heq
    · have hmk : m / s < s ^ k := by
        rw [Int.ediv_lt_iff_lt_mul hs]
        rw [Int.pow_succ] at h2
        exact h2
      rw [digs_before k s (n / s) (m / s) hs (Int.ediv_nonneg h0 (by omega)) hlt hmk]
      simp
    · rw [heq]
      have : n % s < m % s := by rw [heq] at hd1; omega
      simp [this]
theorem allC_sorted {w s : Int} (hL : lockB w s = true) : (allC w s).Pairwise fun a b => beforeB a b = true := by
  have hl := lock_of hL
  unfold allC
  rw [List.pairwise_map]
  refine List.Pairwise.imp_of_mem ?_ (List.pairwise_lt_range (n := manyC w s))
  intro a b ha hb hab
  have hb' : b < manyC w s := by simpa using hb
  have hp := manyC_pow (w := w) (s := s) (by omega)
  exact digs_before w.toNat s a b (by omega) (by omega) (by omega) (by omega)
theorem readL_sorted {w s : Int} (hL : lockB w s = true) (cs : List Clue) : (readL w s cs).Pairwise fun a b => beforeB a b = true := (allC_sorted hL).filter _
theorem readL_before {w s : Int} (hL : lockB w s = true) (cs : List Clue) {i j : Int} (h0 : 0 ≤ i) (h1 : i < j) (h2 : j < (readL w s cs).length) : beforeB (nth (readL w s cs) i) (nth (readL w s cs) j) = true := by
  have h := List.pairwise_iff_getElem.1 (readL_sorted hL cs) i.toNat j.toNat (by omega) (by omega) (by omega)
  have e1 : i.toNat < (readL w s cs).length := by omega
  have e2 : j.toNat < (readL w s cs).length := by omega
  simpa [nth, List.getD, e1, e2] using h
/-- The number that digits spell. -/
def numOf (s : Int) : List Int → Int
  | [] => 0
  | x :: xs => x * s ^ xs.length + numOf s xs
theorem numOf_snoc (s : Int) : ∀ (xs : List Int) (a : Int), numOf s (xs ++ [a]) = numOf s xs * s + a
  | [], a => by simp [numOf]
  | x :: xs, a => by
    simp only [List.cons_append, numOf, numOf_snoc s xs a, List.length_append, List.length_cons, List.length_nil]
    rw [Int.pow_succ, Int.add_mul, Int.mul_assoc]
    omega
theorem digs_num (s : Int) (hs : 0 < s) : ∀ (k : Nat) (xs : List Int), xs.length = k → (∀ x ∈ xs, 0 ≤ x ∧ x ≤ s - 1) → digs k s (numOf s xs) = xs ∧ 0 ≤ numOf s xs ∧ numOf s xs < s ^ k
  | 0, xs, hl, _ => by
    have : xs = [] := List.eq_nil_of_length_eq_zero hl
    subst this; simp [digs, numOf]
  | k + 1, xs, hl, hx => by
    obtain ⟨ys, a, rfl⟩ : ∃ ys a, xs = ys ++ [a] := by
      refine ⟨xs.dropLast, xs.getLast (by intro e; simp [e] at hl), ?_⟩
      exact (List.dropLast_concat_getLast _).symm
    have ha := hx a (by simp)
    obtain ⟨h1, h2, h3⟩ := digs_num s hs k ys (by simpa using hl) (fun x hx' => hx x (by simp [hx']))
    rw [numOf_snoc]
    have hd : (numOf s ys * s + a) / s = numOf s ys := by
      rw [Int.mul_comm, Int.mul_add_ediv_left _ _ (by omega), Int.ediv_eq_zero_of_lt ha.1 (by omega)]; omega
    have hm : (numOf s ys * s + a) % s = a := by
      rw [Int.mul_comm, Int.mul_add_emod_self_left, Int.emod_eq_of_lt ha.1 (by omega)]
    refine ⟨by simp only [digs, hd, hm, h1], ?_, ?_⟩
    · have := Int.mul_nonneg h2 (show 0 ≤ s by omega); omega
    · rw [Int.pow_succ]
      have : (numOf s ys + 1) * s ≤ s ^ k * s := Int.mul_le_mul_of_nonneg_right (by omega) (by omega)
      rw [Int.add_mul] at this
      omega
theorem mem_allC {w s : Int} (hL : lockB w s = true) {xs : List Int} (h : codeB w s xs = true) : xs ∈ allC w s := by
  have hl := lock_of hL
  have h1 := code_of h
  obtain ⟨h2, h3, h4⟩ := digs_num s (by omega) w.toNat xs (by omega) h1.2
  have hp := manyC_pow (w := w) (s := s) (by omega)
  unfold allC
  rw [List.mem_map]
  refine ⟨(numOf s xs).toNat, by simp; omega, ?_⟩
  unfold codeAt
  rw [show (((numOf s xs).toNat : Nat) : Int) = numOf s xs by omega]
  exact h2
theorem mem_readL {w s : Int} (hL : lockB w s = true) {cs : List Clue} {xs : List Int} (h : codeB w s xs = true) : xs ∈ readL w s cs ↔ failsT cs xs < 0 := by
  rw [readL_eq, List.mem_filter]
  simp [fitB, mem_allC hL h]
theorem drop_cons {xs : List Int} {s : Int} (h0 : 0 ≤ s) (h1 : s < xs.length) : xs.drop s.toNat = nth xs s :: xs.drop (s + 1).toNat := by
  have hlt : s.toNat < xs.length := by omega
  have e : (s + 1).toNat = s.toNat + 1 := by omega
  rw [e, List.drop_eq_getElem_cons hlt]
  simp [nth, List.getD, hlt]
theorem before_step {xs ys : List Int} {s : Int} (h0 : 0 ≤ s) (h1 : s < xs.length) (h2 : s < ys.length) : beforeB (xs.drop s.toNat) (ys.drop s.toNat) = if nth xs s = nth ys s then beforeB (xs.drop (s + 1).toNat) (ys.drop (s + 1).toNat) else decide (nth xs s < nth ys s) := by
  rw [drop_cons h0 h1, drop_cons h0 h2]; rfl
theorem before_out {xs ys : List Int} {s : Int} (h : (xs.length : Int) ≤ s ∨ (ys.length : Int) ≤ s) : beforeB (xs.drop s.toNat) (ys.drop s.toNat) = false := by
  rcases h with h | h
  · rw [List.drop_eq_nil_of_le (by omega)]; rfl
  · rw [List.drop_eq_nil_of_le (as := ys) (by omega)]
    cases xs.drop s.toNat <;> rfl
theorem ClS.snoc {u : World} {v v' gv : Value} {cs : List Clue} {gs : List Value} {c : Clue} (h : ClS u v cs gs) (hg : SlI u gv c.g) (hs : SlC u v' (cs ++ [c]).length 7 (clFlat (cs ++ [c]) (gs ++ [gv]))) : ClS u v' (cs ++ [c]) (gs ++ [gv]) := by
  refine ⟨hs, by simp [h.len], fun i h0 h1 => ?_⟩
  have hl := h.len
  by_cases hi : i < cs.length
  · have e1 : nth (cs ++ [c]) i = nth cs i := by unfold nth; rw [List.getD, List.getD, List.getElem?_append_left (by omega)]
    have e2 : nth (gs ++ [gv]) i = nth gs i := by unfold nth; rw [List.getD, List.getD, List.getElem?_append_left (by omega)]
    rw [e1, e2]
    exact h.el i h0 hi
  · have hi2 : i.toNat = cs.length := by simp at h1; omega
    have e1 : nth (cs ++ [c]) i = c := by simp [nth, List.getD, hi2]
    have e2 : nth (gs ++ [gv]) i = gv := by simp [nth, List.getD, hi2, ← hl]
    rw [e1, e2]
    exact hg
theorem nth_take {α : Type} [Inhabited α] (xs : List α) {m : Nat} {i : Int} (h0 : 0 ≤ i) (h1 : i < (xs.take m).length) : nth (xs.take m) i = nth xs i := by
  have : i.toNat < m := by simp at h1; omega
  simp [nth, List.getD, List.getElem?_take, this]
theorem exact_end {w s : Int} {cs : List Clue} {xs : List Int} {m : Nat} (hm : 0 < m) (hL : lockB w s = true) (hx : codeB w s xs = true) :
    (decide (failsT cs xs < 0) == ((readL w s cs).take m).any (fun y => decide (y = xs)) ||
      decide (failsT cs xs < 0) && (decide (((readL w s cs).length : Int) > ((readL w s cs).take m).length) && !beforeB xs (nth ((readL w s cs).take m) (((readL w s cs).take m).length - 1)))) = true := by
  by_cases hf : failsT cs xs < 0
  · rw [decide_eq_true hf]
    by_cases hl : ((readL w s cs).take m).any (fun y => decide (y = xs)) = true
    · simp [hl]
    · have hl' : ((readL w s cs).take m).any (fun y => decide (y = xs)) = false := by
        cases h : ((readL w s cs).take m).any (fun y => decide (y = xs)) with
        | false => rfl
        | true => exact absurd h hl
      rw [hl']
      have hmem := (mem_readL (cs := cs) hL hx).2 hf
      obtain ⟨j, h0, h1, hj⟩ := mem_nth hmem
      have hjm : (m : Int) ≤ j := by
        rcases Int.lt_or_le j m with h | h
        · exfalso
          apply hl
          rw [List.any_eq_true]
          refine ⟨xs, ?_, by simp⟩
          have h3 : j < (((readL w s cs).take m).length : Int) := by simp; omega
          rw [← hj, ← nth_take (readL w s cs) h0 h3]
          exact nth_mem h0 h3
        · exact h
      have hlen : ((readL w s cs).take m).length = m := by rw [List.length_take]; omega
      have hb := readL_before hL cs (i := (m : Int) - 1) (j := j) (by omega) (by omega) h1
      have he : nth ((readL w s cs).take m) ((((readL w s cs).take m).length : Int) - 1) = nth (readL w s cs) ((m : Int) - 1) := by
        rw [nth_take _ (by omega) (by omega), hlen]
      rw [he, ← hj, before_asym _ _ hb, hlen]
      simp; omega
  · rw [decide_eq_false hf]
    have hl : ((readL w s cs).take m).any (fun y => decide (y = xs)) = false := by
      rw [List.any_eq_false]
      intro y hy
      simp
      rintro rfl
      exact hf ((mem_readL hL hx).1 (List.mem_of_mem_take hy))
    rw [hl]; rfl

end Go.Proofs.Ytldagbcceefcdaa

/- part Left -/
/- Plain laws on what is left behind an answer; on cores, idle clues and pairs. No program in sight. -/
namespace Go.Proofs.Ytldagbcceefcdaa
set_option linter.unusedVariables false
set_option linter.unusedSimpArgs false
open Go.RowKit

section
variable {w s : Int} {cs : List Clue}
theorem nx_of (h : cluesE w s cs = 0) (h2 : nxE w s cs = 0) : 0 < (readL w s cs).length ∧ (readL w s cs).length ≤ 200 := by
  unfold nxE at h2
  rw [if_pos h] at h2
  repeat' split at h2
  all_goals omega
theorem nx_not (h : cluesE w s cs = 0) (h2 : ¬ nxE w s cs = 0) (hn : (readL w s cs).length ≤ 60) : (readL w s cs).length = 0 ∧ nxE w s cs = 3 := by
  unfold nxE at h2 ⊢
  rw [if_pos h] at h2 ⊢
  by_cases h0 : (readL w s cs).length = 0
  · rw [if_pos h0]; exact ⟨h0, rfl⟩
  · rw [if_neg h0, if_neg (by omega)] at h2; exact absurd rfl h2
theorem nxG_mem (h : 0 < (readL w s cs).length) : nxG w s cs ∈ readL w s cs := by
  have := bestJ_lt (readL w s cs) (readL w s cs).length h
  exact nth_mem (by omega) (by omega)
theorem cA_pos {L : List (List Int)} {x y : List Int} (h : y ∈ L) : 1 ≤ cA L x y := by
  have : 0 < (L.filter fun z => decide (rightN z x = rightN y x) && decide (comN z x = comN y x)).length := List.length_pos_of_mem (List.mem_filter.2 ⟨h, by simp⟩)
  unfold cA cntRC
  omega
theorem cA_le {L : List (List Int)} {x y : List Int} (h : y ∈ L) : cA L x y ≤ wN L x := maxL_ge (List.mem_map_of_mem h)
theorem wN_pos {L : List (List Int)} {x : List Int} (h : 0 < L.length) : 1 ≤ wN L x := by
  have h1 := cA_pos (x := x) (List.getElem_mem h)
  have h2 := cA_le (x := x) (List.getElem_mem h)
  omega
theorem readL_nodup (hL : lockB w s = true) : (readL w s cs).Nodup := by
  refine List.Pairwise.imp ?_ (readL_sorted hL cs)
  intro a b h e
  subst e
  rw [before_self] at h; cases h
theorem filter_one {α : Type} [DecidableEq α] {p : α → Bool} {x : α} : ∀ {L : List α}, L.Nodup → (∀ y ∈ L, p y = true → y = x) → (L.filter p).length ≤ 1
  | [], _, _ => by simp
  | a :: L, hn, h => by
    rw [List.nodup_cons] at hn
    have ih := filter_one (p := p) (x := x) hn.2 (fun y hy => h y (by simp [hy]))
    rw [List.filter_cons]
    split
    · rename_i hp
      have hax := h a (by simp) hp
      have : L.filter p = [] := by
        rw [List.filter_eq_nil_iff]
        intro y hy hp2
        have := h y (by simp [hy]) hp2
        rw [hax, ← this] at hn
        exact hn.1 hy
      rw [this]; simp
    · exact ih
theorem filter_miss {α : Type} {p : α → Bool} {x : α} : ∀ {L : List α}, x ∈ L → p x = false → (L.filter p).length < L.length
  | a :: L, h, hp => by
    have hle := List.length_filter_le p L
    rw [List.filter_cons]
    by_cases ha : p a = true
    · rw [if_pos ha]
      have : x ∈ L := by
        simp only [List.mem_cons] at h
        rcases h with rfl | h
        · rw [hp] at ha; cases ha
        · exact h
      have h3 := filter_miss (p := p) this hp
      simp only [List.length_cons]; omega
    · rw [if_neg ha]; simp only [List.length_cons]; omega
theorem wN_lt (hL : lockB w s = true) {x : List Int} (hx : x ∈ readL w s cs) (h : 1 < (readL w s cs).length) : wN (readL w s cs) x < (readL w s cs).length := by
  have hxb := (readL_mem hL hx).1
  have hm : wN (readL w s cs) x ≤ (readL w s cs).length - 1 := by
    refine maxL_le (by omega) fun a ha => ?_
    obtain ⟨y, hy, rfl⟩ := List.mem_map.1 ha
    have hyb := (readL_mem hL hy).1
    have hl1 := (code_of hxb).1
    have hl2 := (code_of hyb).1
    by_cases he : rightN y x = rightN x x
    · -- only x itself
      have hyx : y = x := right_full (by omega) (by rw [he, right_self]; omega)
      subst hyx
      have : ((readL w s cs).filter fun z => decide (rightN z y = rightN y y) && decide (comN z y = comN y y)).length ≤ 1 := by
        refine filter_one (x := y) (readL_nodup hL) fun z hz hp => ?_
        simp only [Bool.and_eq_true, decide_eq_true_eq] at hp
        have hl3 := (code_of (readL_mem hL hz).1).1
        exact right_full (by omega) (by rw [hp.1, right_self]; omega)
      unfold cA cntRC
      omega
    · have : ((readL w s cs).filter fun z => decide (rightN z x = rightN y x) && decide (comN z x = comN y x)).length < (readL w s cs).length := by
        refine filter_miss hx ?_
        rw [decide_eq_false (fun e => he e.symm)]; rfl
      unfold cA cntRC
      omega
  omega
/-- The clue that an answer makes. -/
def ansC (x y : List Int) : Clue := ⟨6, 0, 0, rightN y x, comN y x, x, false⟩
theorem ansC_holds (x y z : List Int) : holdsT (ansC x y) z = (decide (rightN z x = rightN y x) && decide (comN z x = comN y x)) := by
  have hp : plainT (ansC x y) z = (decide (rightN z x = rightN y x) && decide (comN z x = comN y x)) := by
    simp only [plainT, ansC]
    rfl
  unfold holdsT
  rw [hp]
  show (_ != false) = _
  exact Bool.bne_false _
theorem ansC_count (x y : List Int) : ((readL w s (cs ++ [ansC x y])).length : Int) = cA (readL w s cs) x y := by
  rw [readL_snoc]
  unfold cA cntRC
  congr 2
  congr 1
  funext z
  exact ansC_holds x y z
theorem ansC_clue (hL : lockB w s = true) {x y : List Int} (hx : codeB w s x = true) (hy : codeB w s y = true) : clueB w s (ansC x y) = true := by
  have hb := ans_bd hL hx hy
  have h1 := right_common (ys := x) (code_ten hL hy).2
  have h2 := common_len (ys := x) (code_ten hL hy).2
  have h3 := (code_of hy).1
  have h4 := rightN_le y x
  simp only [clueB, ansC]
  have hc : comN y x = commonN y x 10 - rightN y x := rfl
  simp [within, hx]
  omega
/-! ### cores -/
theorem filter_mono {α : Type} {p q : α → Bool} : ∀ {L : List α}, (∀ x ∈ L, p x = true → q x = true) → (L.filter p).length ≤ (L.filter q).length
  | [], _ => by simp
  | x :: L, h => by
    have ih := filter_mono (p := p) (q := q) (L := L) (fun y hy => h y (by simp [hy]))
    have hx := h x (by simp)
    rw [List.filter_cons, List.filter_cons]
    by_cases hp : p x = true
    · rw [if_pos hp, if_pos (hx hp)]; simp only [List.length_cons]; omega
    · rw [if_neg hp]
      split
      · simp only [List.length_cons]; omega
      · exact ih
theorem readL_mono {A B : List Clue} (h : ∀ c ∈ A, c ∈ B) : (readL w s B).length ≤ (readL w s A).length := by
  rw [readL_eq, readL_eq]
  refine filter_mono fun x _ hx => ?_
  rw [fitB_all, List.all_eq_true] at hx ⊢
  exact fun c hc => hx c (h c hc)
theorem pick_sub {α : Type} [Inhabited α] {cs : List α} {A B : List Nat} (h : ∀ k ∈ A, k ∈ B) : ∀ c ∈ pickN cs A, c ∈ pickN cs B := by
  intro c hc
  unfold pickN at hc ⊢
  obtain ⟨k, hk, rfl⟩ := List.mem_map.1 hc
  exact List.mem_map_of_mem (h k hk)
theorem core_many : ∀ (i : Nat), i ≤ cs.length → (readL w s (pickN cs (leftN w s cs i))).length = (readL w s cs).length
  | 0, _ => by rw [leftN_zero]
  | i + 1, h => by
    have ih := core_many i (by omega)
    by_cases hr : (readL w s (pickN cs (coreTo w s cs i ++ restN cs.length (i + 1)))).length = (readL w s cs).length
    · rw [leftN_yes (by omega) hr]; exact hr
    · rw [leftN_no (by omega) hr]; exact ih
theorem core_all : (readL w s (pickN cs (coreTo w s cs cs.length))).length = (readL w s cs).length := by
  rw [← leftN_end]; exact core_many _ (Nat.le_refl _)
theorem core_split {j : Nat} : ∀ (i : Nat), j ≤ i → ∃ T, coreTo w s cs i = coreTo w s cs j ++ T ∧ ∀ x ∈ T, j ≤ x
  | 0, h => ⟨[], by rw [show j = 0 by omega]; simp, by simp⟩
  | i + 1, h => by
    by_cases hj : j = i + 1
    · exact ⟨[], by rw [hj]; simp, by simp⟩
    · obtain ⟨T, h1, h2⟩ := core_split (j := j) i (by omega)
      by_cases hr : (readL w s (pickN cs (coreTo w s cs i ++ restN cs.length (i + 1)))).length = (readL w s cs).length
      · exact ⟨T, by rw [coreTo_yes hr, h1], h2⟩
      · refine ⟨T ++ [i], by rw [coreTo_no hr, h1, List.append_assoc], fun x hx => ?_⟩
        simp only [List.mem_append, List.mem_singleton] at hx
        rcases hx with hx | rfl
        · exact h2 x hx
        · omega
theorem core_sorted : ∀ i : Nat, (coreTo w s cs i).Pairwise (· < ·)
  | 0 => by simp [coreTo]
  | i + 1 => by
    have ih := core_sorted i
    unfold coreTo
    split
    · exact ih
    · rw [List.pairwise_append]
      refine ⟨ih, by simp, fun a ha b hb => ?_⟩
      simp at hb
      rw [hb]
      exact coreTo_lt w s cs _ a ha
theorem core_kept {j : Nat} : ∀ i : Nat, j ∈ coreTo w s cs i → ¬ (readL w s (pickN cs (coreTo w s cs j ++ restN cs.length (j + 1)))).length = (readL w s cs).length
  | 0, h => by simp [coreTo] at h
  | i + 1, h => by
    by_cases hr : (readL w s (pickN cs (coreTo w s cs i ++ restN cs.length (i + 1)))).length = (readL w s cs).length
    · rw [coreTo_yes hr] at h; exact core_kept i h
    · rw [coreTo_no hr] at h
      simp only [List.mem_append, List.mem_singleton] at h
      rcases h with h | h
      · exact core_kept i h
      · rw [h]; exact hr
theorem restN_in {n i k : Nat} (h1 : i ≤ k) (h2 : k < n) : k ∈ restN n i := by
  unfold restN
  rw [List.mem_iff_getElem]
  exact ⟨k - i, by simp; omega, by simp; omega⟩
theorem core_drop {k : Nat} (hk : k < (coreTo w s cs cs.length).length) : (readL w s cs).length < (readL w s (pickN cs ((coreTo w s cs cs.length).eraseIdx k))).length := by
  have hj := List.getElem_mem hk
  have hjn := coreTo_lt w s cs _ _ hj
  have h1 := core_kept _ hj
  obtain ⟨T, hT, _⟩ := core_split (w := w) (s := s) (cs := cs) (j := (coreTo w s cs cs.length)[k]) cs.length (by omega)
  have hin : ∀ c ∈ pickN cs (coreTo w s cs (coreTo w s cs cs.length)[k] ++ restN cs.length ((coreTo w s cs cs.length)[k] + 1)), c ∈ cs := fun c hc => by
    refine pickN_mem (fun x hx => ?_) hc
    simp only [List.mem_append] at hx
    rcases hx with hx | hx
    · have := coreTo_lt w s cs _ _ hx; omega
    · exact (restN_mem hx).2
  have h2 := readL_mono (w := w) (s := s) hin
  have h3 : (readL w s (pickN cs (coreTo w s cs (coreTo w s cs cs.length)[k] ++ restN cs.length ((coreTo w s cs cs.length)[k] + 1)))).length ≤ (readL w s (pickN cs ((coreTo w s cs cs.length).eraseIdx k))).length := by
    refine readL_mono (pick_sub fun x hx => ?_)
    rw [List.mem_eraseIdx_iff_getElem] at hx
    obtain ⟨i, hi, hik, rfl⟩ := hx
    have hs := core_sorted (w := w) (s := s) (cs := cs) cs.length
    rw [List.pairwise_iff_getElem] at hs
    simp only [List.mem_append]
    rcases Nat.lt_or_gt_of_ne hik with h | h
    · have hlt := hs i k hi hk h
      left
      have hm : (coreTo w s cs cs.length)[i] ∈ coreTo w s cs cs.length := List.getElem_mem hi
      obtain ⟨T2, hT2, hT3⟩ := core_split (w := w) (s := s) (cs := cs) (j := (coreTo w s cs cs.length)[k]) cs.length (by omega)
      generalize (coreTo w s cs cs.length)[i] = x at hlt hm
      generalize (coreTo w s cs cs.length)[k] = y at *
      rw [hT2] at hm
      simp only [List.mem_append] at hm
      rcases hm with hm | hm
      · exact hm
      · have := hT3 x hm; omega
    · have hlt := hs k i hk hi h
      have hlt2 := coreTo_lt w s cs _ _ (List.getElem_mem hi)
      right
      exact restN_in (by omega) hlt2
  omega
theorem cluesE_pick (h : cluesE w s cs = 0) {ks : List Nat} (hk : ∀ k ∈ ks, k < cs.length) (hn : ks.length ≤ 20) : cluesE w s (pickN cs ks) = 0 := by
  have hL := cluesE_lock h
  have hC := cluesE_clue h
  have h1 : (pickN cs ks).all (clueB w s) = true := List.all_eq_true.2 fun c hc => hC c (pickN_mem hk hc)
  have h2 : ¬ 20 < (((pickN cs ks).length : Nat) : Int) := by rw [pickN_len]; omega
  simp only [cluesE, hL, h1, h2, if_true, if_false]
/-- Of the core the first m, without the one that is skipped. -/
def fewN (K : List Nat) (skip : Int) (m : Nat) : List Nat := pickN K ((List.range m).filter fun k : Nat => decide ((k : Int) ≠ skip))
section
variable {K : List Nat} {skip : Int}
theorem fewN_zero : fewN K skip 0 = [] := rfl
theorem fewN_yes {i : Int} (h0 : 0 ≤ i) (h : ¬ i = skip) : fewN K skip (i + 1).toNat = fewN K skip i.toNat ++ [K.getD i.toNat 0] := by
  have e : (i + 1).toNat = i.toNat + 1 := by omega
  have e2 : ((i.toNat : Nat) : Int) = i := by omega
  rw [e]
  simp [fewN, pickN, List.range_succ, List.filter_append, List.filter_cons, e2, h]
theorem few_snoc {α : Type} [Inhabited α] {cs : List α} {i : Int} (h0 : 0 ≤ i) (h1 : i < K.length) (h : ¬ i = skip) : pickN cs (fewN K skip (i + 1).toNat) = pickN cs (fewN K skip i.toNat) ++ [nth cs (nth (K.map Int.ofNat) i)] := by
  rw [fewN_yes h0 h, pickN_app, ofNat_at K h0 h1]
  simp [pickN, nth]
theorem fewN_no {i : Int} (h0 : 0 ≤ i) (h : i = skip) : fewN K skip (i + 1).toNat = fewN K skip i.toNat := by
  subst h
  have e : (i + 1).toNat = i.toNat + 1 := by omega
  have e2 : ((i.toNat : Nat) : Int) = i := by omega
  rw [e]
  simp [fewN, pickN, List.range_succ, List.filter_append, List.filter_cons, e2]
theorem fewN_len (m : Nat) : (fewN K skip m).length ≤ m := by
  unfold fewN
  rw [pickN_len]
  have := List.length_filter_le (fun k : Nat => decide ((k : Int) ≠ skip)) (List.range m)
  simpa using this
theorem fewN_all (h : skip < 0) : fewN K skip K.length = K := by
  unfold fewN
  rw [List.filter_eq_self.2 (fun a _ => by simp; omega)]
  exact pickN_all
theorem fewN_era {k : Nat} (hk : k < K.length) (h : skip = k) : fewN K skip K.length = K.eraseIdx k := by
  subst h
  unfold fewN
  have : (List.range K.length).filter (fun j : Nat => decide ((j : Int) ≠ (k : Int))) = (List.range K.length).eraseIdx k := by
    rw [era_numbers _ _ hk]
    congr 1
    funext j
    simp [Int.ofNat_inj]
  rw [this, pickN_era, pickN_all]
theorem fewN_mem {m x : Nat} (hm : m ≤ K.length) (h : x ∈ fewN K skip m) : x ∈ K := by
  unfold fewN at h
  refine pickN_mem (fun k hk => ?_) h
  have := (List.mem_filter.1 hk).1
  simp at this; omega
end
/-- The number of readings of a part of the core. -/
theorem few_count {skip : Int} (h0 : -1 ≤ skip) (h1 : skip < (coreTo w s cs cs.length).length) :
    ((((readL w s (pickN cs (fewN (coreTo w s cs cs.length) skip (coreTo w s cs cs.length).length))).length : Int) = (readL w s cs).length) ↔ skip < 0) ∧ (readL w s cs).length ≤ (readL w s (pickN cs (fewN (coreTo w s cs cs.length) skip (coreTo w s cs cs.length).length))).length := by
  by_cases hs : skip < 0
  · rw [fewN_all hs, core_all]; simp [hs]
  · have hk : skip.toNat < (coreTo w s cs cs.length).length := by omega
    have := core_drop (w := w) (s := s) (cs := cs) hk
    rw [fewN_era hk (by omega)]
    omega

section
variable {P : Program} {ro : Option Nat} {n0 : Nat} {w0 : World} {ds : List Deferred} {ops : Array Oper} {Q : Exit → Act → World → Prop} {L : List SA}
  {rest : List Oper} {l : List Value} {ty : TypeId} {ps : String} {af : Array Edge}
theorem WS.appendCls {T e : TypeId} {by_ i j : Nat} {x y : Operand} {v z : Value} {A B R : List Clue} {GA GB RG zc : List Value} (hT : sl P T = some (e, 7, by_)) (hz : zv P e = some zc) (hzl : zc.length = 7)
    (hx : evo l x = some v) (hj : L[j]? = some (osl e 7 v A.length (clFlat A GA))) (hg : GA.length = A.length) (hy : evo l y = some z) (hn : ∀ u, St n0 w0 L u → ClS u z B GB) (h1 : ∀ g ∈ GB, g.oneCell' = true)
    (hR : A ++ B = R) (hRG : GA ++ GB = RG) (hm : A.length + B.length ≤ 9223372036854775807) (hb : (A.length + B.length) * by_ ≤ 140737488355328)
    {l' : Value → List Value} (hl : ∀ v, lset l i v = some (l' v)) {L' : Value → List SA} (hL : ∀ v', lset L j (osl e 7 v' R.length (clFlat R RG)) = some (L' v')) (k : ∀ v', v'.oneCell' = true → WS P ro n0 w0 ds ops Q (L' v') rest (l' v')) :
    WS P ro n0 w0 ds ops Q L (⟨some i, .call ⟨.builtin .append, #[x, y], #[T, T]⟩, ty, ps, af, none⟩ :: rest) l := by
  subst hR; subst hRG
  refine WS.append hT hz hzl (by decide) hx hj hy (m := B.length) (fun u hu => (hn u hu).sp) (clFlat_one h1) hm hb hl (L' := L') (fun v' => ?_) fun v' => ?_
  · rw [← hL v', clFlat_app hg]; simp
  · have hjl := (List.getElem?_eq_some_iff.1 hj).1
    have h2 := (lset_of (hL v')).symm
    refine WS.oc (j := j) (v := v') (e := e) (k := 7) (n := (A ++ B).length) (xs := clFlat (A ++ B) (GA ++ GB)) (by rw [h2, List.getElem?_set_self hjl]) (k v')
end
theorem era_parts {α : Type} (cs : List α) {i : Nat} (h : i < cs.length) : (cs.drop 0).take (i - 0) ++ (cs.drop (i + 1)).take (cs.length - (i + 1)) = cs.eraseIdx i := by
  rw [List.drop_zero, Nat.sub_zero, List.take_of_length_le (l := cs.drop (i + 1)) (by simp), List.eraseIdx_eq_take_drop_succ]

/-! ### idle clues -/
theorem era_split {α : Type} [Inhabited α] {cs : List α} {i : Nat} (h : i < cs.length) : cs = cs.take i ++ cs.getD i default :: cs.drop (i + 1) := by
  have e : cs.getD i default = cs[i] := by simp [List.getD, h]
  rw [e]
  conv => lhs; rw [← List.take_append_drop i cs, List.drop_eq_getElem_cons h]
theorem read_era {i : Nat} (h : i < cs.length) : readL w s cs = (readL w s (cs.eraseIdx i)).filter (holdsT (cs.getD i default)) := by
  rw [readL_eq, readL_eq, List.filter_filter]
  congr 1
  funext x
  rw [fitB_all, fitB_all, List.eraseIdx_eq_take_drop_succ]
  conv => lhs; rw [era_split h]
  simp only [List.all_append, List.all_cons]
  cases holdsT (cs.getD i default) x <;> simp
theorem idle_iff {i : Nat} (h : i < cs.length) : (impL w s (cs.eraseIdx i) (cs.getD i default)).isNone = decide ((readL w s (cs.eraseIdx i)).length = (readL w s cs).length) := by
  rw [read_era h]
  by_cases hall : ∀ y ∈ readL w s (cs.eraseIdx i), holdsT (cs.getD i default) y = true
  · rw [imp_none hall, List.filter_eq_self.2 hall]; simp
  · have h1 : ¬ ((readL w s (cs.eraseIdx i)).filter (holdsT (cs.getD i default))).length = (readL w s (cs.eraseIdx i)).length := fun e => hall (List.length_filter_eq_length_iff.1 e)
    have h2 : ¬ impL w s (cs.eraseIdx i) (cs.getD i default) = none := fun e => by
      rw [impL, List.find?_eq_none] at e
      exact hall fun y hy => by simpa using e y hy
    rw [decide_eq_false (fun e => h1 e.symm)]
    cases hI : impL w s (cs.eraseIdx i) (cs.getD i default) with
    | none => exact absurd hI h2
    | some _ => rfl
theorem idle_split {n i : Nat} (h : i ≤ n) : idleTo w s cs n = idleTo w s cs i ++ ((restN n i).filter fun i => decide ((readL w s (cs.eraseIdx i)).length = (readL w s cs).length)).map Int.ofNat := by
  unfold idleTo restN
  rw [← List.map_append, ← List.filter_append]
  congr 2
  have := List.take_append_drop i (List.range n)
  rw [List.take_range, Nat.min_eq_left h] at this
  exact this.symm
theorem idle_at {i : Nat} (h : i < cs.length) : (decide (((idleTo w s cs i).length : Int) < (idleTo w s cs cs.length).length) && decide (nth (idleTo w s cs cs.length) (idleTo w s cs i).length = i)) = decide ((readL w s (cs.eraseIdx i)).length = (readL w s cs).length) := by
  have h1 := idle_split (w := w) (s := s) (cs := cs) (n := cs.length) (i := i) (by omega)
  rw [restN_cons h, List.filter_cons] at h1
  by_cases hp : (readL w s (cs.eraseIdx i)).length = (readL w s cs).length
  · rw [if_pos (by simpa using hp)] at h1
    rw [h1, decide_eq_true hp]
    rw [List.map_cons, nth_mid (by simp)]
    simp
    omega
  · rw [if_neg (by simpa using hp)] at h1
    rw [decide_eq_false hp, h1]
    generalize hT : ((restN cs.length (i + 1)).filter fun i => decide ((readL w s (cs.eraseIdx i)).length = (readL w s cs).length)) = T
    cases T with
    | nil => simp
    | cons a T =>
      have ha : a ∈ restN cs.length (i + 1) := (List.mem_filter.1 (hT ▸ List.mem_cons_self)).1
      have := restN_mem ha
      rw [List.map_cons, nth_mid (by simp)]
      have : ¬ Int.ofNat a = (i : Int) := by simp; omega
      rw [decide_eq_false this, Bool.and_false]
end
end Go.Proofs.Ytldagbcceefcdaa

