/- Merged texts of this proof (walks and plain laws), printed by a program of the prover. -/
import Derived.Test.YtaeagngfhceceaaGreatDoorZb
namespace Go.Proofs.YtaeagngfhceceaaGreatDoor
set_option linter.unusedVariables false
set_option linter.unusedSimpArgs false
open Go.RowKit
theorem idxF_neg {α : Type} (p : α → Bool) (xs : List α) : decide (idxF p xs < 0) = !xs.any p := by
  have := idxF_any (p := p) (xs := xs)
  rw [← this]
  by_cases h : 0 ≤ idxF p xs
  · simp [h]
  · simp [h]; omega
theorem fitB_all (cs : List Clue) (xs : List Int) : fitB cs xs = cs.all fun c => holdsT c xs := by
  unfold fitB failsT
  rw [idxF_neg, List.not_any_eq_all_not]
  simp
theorem readL_eq (w s : Int) (cs : List Clue) : readL w s cs = (allC w s).filter (fitB cs) := rfl
def beforeB : List Int → List Int → Bool
  | x :: xs, y :: ys => if x = y then beforeB xs ys else decide (x < y)
  | _, _ => false
theorem before_self : ∀ xs : List Int, beforeB xs xs = false
  | [] => rfl
  | x :: xs => by simp [beforeB, before_self xs]
theorem before_snoc : ∀ (as bs : List Int) (a b : Int), as.length = bs.length → beforeB (as ++ [a]) (bs ++ [b]) = (beforeB as bs || (decide (as = bs) && decide (a < b)))
  | [], [], a, b, _ => by
    by_cases h : a = b
    · subst h; simp [beforeB]
    · simp [beforeB, h]
  | x :: as, y :: bs, a, b, h => by
    have ih := before_snoc as bs a b (by simpa using h)
    simp only [List.cons_append, beforeB]
    by_cases hxy : x = y
    · subst hxy; simp [ih]
    · simp [hxy]
  | [], _ :: _, _, _, h => by simp at h
  | _ :: _, [], _, _, h => by simp at h
theorem digs_before : ∀ (k : Nat) (s n m : Int), 0 < s → 0 ≤ n → n < m → m < s ^ k → beforeB (digs k s n) (digs k s m) = true
  | 0, s, n, m, _, h0, h1, h2 => by simp at h2; omega
  | k + 1, s, n, m, hs, h0, h1, h2 => by
    simp only [digs]
    rw [before_snoc _ _ _ _ (by simp [digs_len])]
    have hd1 := Int.mul_ediv_add_emod n s
    have hd2 := Int.mul_ediv_add_emod m s
    have hn1 := Int.emod_nonneg n (show s ≠ 0 by omega)
    have hn2 := Int.emod_lt_of_pos n hs
    have hm1 := Int.emod_nonneg m (show s ≠ 0 by omega)
    have hm2 := Int.emod_lt_of_pos m hs
    have hle : n / s ≤ m / s := Int.ediv_le_ediv hs (by omega)
    rcases Int.lt_or_eq_of_le hle with hlt | heq
    · have hmk : m / s < s ^ k := by
        rw [Int.ediv_lt_iff_lt_mul hs]
        rw [Int.pow_succ] at h2
        exact h2
      rw [digs_before k s (n / s) (m / s) hs (Int.ediv_nonneg h0 (by omega)) hlt hmk]
      simp
    · rw [heq]
      have : n % s < m % s := by rw [heq] at hd1; omega
      simp [this]
theorem allC_sorted {w s : Int} (hL : lockB w s = true) : (allC w s).Pairwise fun a b => beforeB a b = true := by
  have hl := lock_of hL
  unfold allC
  rw [List.pairwise_map]
  refine List.Pairwise.imp_of_mem ?_ (List.pairwise_lt_range (n := manyC w s))
  intro a b ha hb hab
  have hb' : b < manyC w s := by simpa using hb
  have hp := manyC_pow (w := w) (s := s) (by omega)
  exact digs_before w.toNat s a b (by omega) (by omega) (by omega) (by omega)
theorem readL_sorted {w s : Int} (hL : lockB w s = true) (cs : List Clue) : (readL w s cs).Pairwise fun a b => beforeB a b = true := (allC_sorted hL).filter _
def numOf (s : Int) : List Int → Int
  | [] => 0
  | x :: xs => x * s ^ xs.length + numOf s xs
theorem numOf_snoc (s : Int) : ∀ (xs : List Int) (a : Int), numOf s (xs ++ [a]) = numOf s xs * s + a
  | [], a => by simp [numOf]
  | x :: xs, a => by
    simp only [List.cons_append, numOf, numOf_snoc s xs a, List.length_append, List.length_cons, List.length_nil]
    rw [Int.pow_succ, Int.add_mul, Int.mul_assoc]
    omega
theorem digs_num (s : Int) (hs : 0 < s) : ∀ (k : Nat) (xs : List Int), xs.length = k → (∀ x ∈ xs, 0 ≤ x ∧ x ≤ s - 1) → digs k s (numOf s xs) = xs ∧ 0 ≤ numOf s xs ∧ numOf s xs < s ^ k
  | 0, xs, hl, _ => by
    have : xs = [] := List.eq_nil_of_length_eq_zero hl
    subst this; simp [digs, numOf]
  | k + 1, xs, hl, hx => by
    obtain ⟨ys, a, rfl⟩ : ∃ ys a, xs = ys ++ [a] := by
      refine ⟨xs.dropLast, xs.getLast (by intro e; simp [e] at hl), ?_⟩
      exact (List.dropLast_concat_getLast _).symm
    have ha := hx a (by simp)
    obtain ⟨h1, h2, h3⟩ := digs_num s hs k ys (by simpa using hl) (fun x hx' => hx x (by simp [hx']))
    rw [numOf_snoc]
    have hd : (numOf s ys * s + a) / s = numOf s ys := by
      rw [Int.mul_comm, Int.mul_add_ediv_left _ _ (by omega), Int.ediv_eq_zero_of_lt ha.1 (by omega)]; omega
    have hm : (numOf s ys * s + a) % s = a := by
      rw [Int.mul_comm, Int.mul_add_emod_self_left, Int.emod_eq_of_lt ha.1 (by omega)]
    refine ⟨by simp only [digs, hd, hm, h1], ?_, ?_⟩
    · have := Int.mul_nonneg h2 (show 0 ≤ s by omega); omega
    · rw [Int.pow_succ]
      have : (numOf s ys + 1) * s ≤ s ^ k * s := Int.mul_le_mul_of_nonneg_right (by omega) (by omega)
      rw [Int.add_mul] at this
      omega
theorem mem_allC {w s : Int} (hL : lockB w s = true) {xs : List Int} (h : codeB w s xs = true) : xs ∈ allC w s := by
  have hl := lock_of hL
  have h1 := code_of h
  obtain ⟨h2, h3, h4⟩ := digs_num s (by omega) w.toNat xs (by omega) h1.2
  have hp := manyC_pow (w := w) (s := s) (by omega)
  unfold allC
  rw [List.mem_map]
  refine ⟨(numOf s xs).toNat, by simp; omega, ?_⟩
  unfold codeAt
  rw [show (((numOf s xs).toNat : Nat) : Int) = numOf s xs by omega]
  exact h2
theorem mem_readL {w s : Int} (hL : lockB w s = true) {cs : List Clue} {xs : List Int} (h : codeB w s xs = true) : xs ∈ readL w s cs ↔ failsT cs xs < 0 := by
  rw [readL_eq, List.mem_filter]
  simp [fitB, mem_allC hL h]
end Go.Proofs.YtaeagngfhceceaaGreatDoor
namespace Go.Proofs.YtaeagngfhceceaaGreatDoor
set_option linter.unusedVariables false
set_option linter.unusedSimpArgs false
open Go.RowKit
section
variable {w s : Int} {cs : List Clue}
theorem readL_nodup (hL : lockB w s = true) : (readL w s cs).Nodup := by
  refine List.Pairwise.imp ?_ (readL_sorted hL cs)
  intro a b h e
  subst e
  rw [before_self] at h; cases h
theorem core_many : ∀ (i : Nat), i ≤ cs.length → (readL w s (pickN cs (leftN w s cs i))).length = (readL w s cs).length
  | 0, _ => by rw [leftN_zero]
  | i + 1, h => by
    have ih := core_many i (by omega)
    by_cases hr : (readL w s (pickN cs (coreTo w s cs i ++ restN cs.length (i + 1)))).length = (readL w s cs).length
    · rw [leftN_yes (by omega) hr]; exact hr
    · rw [leftN_no (by omega) hr]; exact ih
theorem core_all : (readL w s (pickN cs (coreTo w s cs cs.length))).length = (readL w s cs).length := by
  rw [← leftN_end]; exact core_many _ (Nat.le_refl _)
theorem core_sorted : ∀ i : Nat, (coreTo w s cs i).Pairwise (· < ·)
  | 0 => by simp [coreTo]
  | i + 1 => by
    have ih := core_sorted i
    unfold coreTo
    split
    · exact ih
    · rw [List.pairwise_append]
      refine ⟨ih, by simp, fun a ha b hb => ?_⟩
      simp at hb
      rw [hb]
      exact coreTo_lt w s cs _ a ha
section
variable {K : List Nat} {skip : Int}
end
section
variable {P : Program} {ro : Option Nat} {n0 : Nat} {w0 : World} {ds : List Deferred} {ops : Array Oper} {Q : Exit → Act → World → Prop} {L : List SA}
  {rest : List Oper} {l : List Value} {ty : TypeId} {ps : String} {af : Array Edge}
end
end
end Go.Proofs.YtaeagngfhceceaaGreatDoor
namespace Go.Proofs.YtaeagngfhceceaaGreatDoor
set_option linter.unusedVariables false
set_option linter.unusedSimpArgs false
open Go.RowKit Go.Proofs
def olst {α : Type} (f : α → Value) (e : TypeId) (v : Value) (xs : List α) : SA := osl e 1 v xs.length (xs.map f)
def lol {α : Type} (f : α → Value) (e : TypeId) (pl : List (Value × List α)) : List SA := pl.map fun p => olst f e p.1 p.2
section
variable {α : Type} {f : α → Value}
theorem lol_perm {e : TypeId} {pl : List (Value × List α)} {i : Nat} {p : Value × List α} (h : pl[i]? = some p) : (lol f e pl).Perm (olst f e p.1 p.2 :: lol f e (pl.eraseIdx i)) := by
  have h1 : (lol f e pl)[i]? = some (olst f e p.1 p.2) := by simp [lol, h]
  have h2 := perm_erase h1
  have h3 : (lol f e pl).eraseIdx i = lol f e (pl.eraseIdx i) := by simp [lol, eraseIdx_map']
  rwa [h3] at h2
section
variable {P : Program} {ro : Option Nat} {n0 : Nat} {w0 : World} {ds : List Deferred} {ops : Array Oper} {Q : Exit → Act → World → Prop} {L : List SA}
  {rest : List Oper} {l : List Value} {d : Option Tmp} {ty : TypeId} {ps : String} {af : Array Edge} {g : Option (Nat × Bool)} {C : World → Prop}
theorem St.focusL {e : TypeId} {pl : List (Value × List α)} {i j : Nat} {p : Value × List α} (hj : L[j]? = some (Go.Proofs.YtaeagngfhceceaaGreatDoor.star (lol f e pl))) (h : pl[i]? = some p) {u : World} :
    St n0 w0 L u ↔ St n0 w0 (olst f e p.1 p.2 :: Go.Proofs.YtaeagngfhceceaaGreatDoor.star (lol f e (pl.eraseIdx i)) :: L.eraseIdx j) u := by
  constructor
  · intro hu
    have h1 := (hu.perm (perm_erase hj)).unpack
    have h2 := h1.perm (List.Perm.append_right _ (lol_perm h))
    exact ((h2.perm (List.perm_middle (l₁ := lol f e (pl.eraseIdx i))).symm).pack).perm (.swap _ _ _)
  · intro hu
    have h1 := (hu.perm (.swap _ _ _)).unpack
    have h2 := h1.perm (List.perm_middle (l₁ := lol f e (pl.eraseIdx i)))
    have h3 : St n0 w0 ((olst f e p.1 p.2 :: lol f e (pl.eraseIdx i)) ++ L.eraseIdx j) u := h2
    exact ((h3.perm (List.Perm.append_right _ (lol_perm h).symm)).pack).perm (perm_erase hj).symm
theorem WS.appendAtL {T e : TypeId} {by_ t j i : Nat} {x y : Operand} {p : Value × List α} {z zc : Value} {a : α} {pl : List (Value × List α)} (hT : sl P T = some (e, 1, by_)) (hz : zv P e = some [zc])
    (hx : evo l x = some p.1) (hj : L[j]? = some (star (lol f e pl))) (hi : pl[i]? = some p) (hy : evo l y = some z) (hn : ∀ u, St n0 w0 L u → SlC u z 1 1 [f a]) (h1 : (f a).oneCell' = true)
    (hb : (p.2.length + 1) * by_ ≤ 140737488355328) (hm : p.2.length + 1 ≤ 9223372036854775807)
    {l' : Value → List Value} (hl : ∀ v, lset l t v = some (l' v)) {L' : Value → List SA} (hL : ∀ v', lset L j (star (lol f e (pl.set i (v', p.2 ++ [a])))) = some (L' v')) (k : ∀ v', v'.oneCell' = true → WS P ro n0 w0 ds ops Q (L' v') rest (l' v')) :
    WS P ro n0 w0 ds ops Q L (⟨some t, .call ⟨.builtin .append, #[x, y], #[T, T]⟩, ty, ps, af, none⟩ :: rest) l := by
  refine WS.weak (fun u hu => (St.focusL hj hi).1 hu) ?_
  refine WS.append (j := 0) (m := 1) (n := p.2.length) (xs := p.2.map f) hT hz rfl Nat.one_pos hx rfl hy (fun u hu => hn u ((St.focusL hj hi).2 hu)) (by simpa using h1) hm hb hl (fun _ => rfl) fun v' => ?_
  refine WS.oc (j := 0) rfl fun hv => ?_
  refine WS.weak (fun u hu => ?_) (k v' hv)
  have hjl := (List.getElem?_eq_some_iff.1 hj).1
  have hil := (List.getElem?_eq_some_iff.1 hi).1
  have h1 : L' v' = L.set j (star (lol f e (pl.set i (v', p.2 ++ [a])))) := (lset_of (hL v')).symm
  rw [h1]
  have a1 : (L.set j (Go.Proofs.YtaeagngfhceceaaGreatDoor.star (lol f e (pl.set i (v', p.2 ++ [a])))))[j]? = some (Go.Proofs.YtaeagngfhceceaaGreatDoor.star (lol f e (pl.set i (v', p.2 ++ [a])))) := List.getElem?_set_self hjl
  have a2 : (pl.set i (v', p.2 ++ [a]))[i]? = some (v', p.2 ++ [a]) := List.getElem?_set_self hil
  refine (St.focusL a1 a2).2 ?_
  have e1 : (pl.set i (v', p.2 ++ [a])).eraseIdx i = pl.eraseIdx i := List.eraseIdx_set_eq ..
  have e2 : (L.set j (star (lol f e (pl.set i (v', p.2 ++ [a]))))).eraseIdx j = L.eraseIdx j := List.eraseIdx_set_eq ..
  rw [e1, e2]
  unfold olst
  simpa using hu
theorem St.nilsL {e : TypeId} {u : World} (h : St n0 w0 L u) : ∀ n : Nat, St n0 w0 (Go.Proofs.YtaeagngfhceceaaGreatDoor.star (lol f e (List.replicate n (.slice none 0 0, []))) :: L) u
  | 0 => St.pack (L1 := []) h
  | n + 1 => by
    have h1 := (St.nilsL (e := e) h n).unpack
    have h2 := h1.osl0 (e := e) (size := 1)
    exact St.pack (L1 := lol f e (List.replicate (n + 1) (.slice none 0 0, []))) h2
theorem WS.makeListsL {T te e : TypeId} {by_ i : Nat} {x y : Operand} {n : Int} (hT : sl P T = some (te, 1, by_)) (hx : evo l x = some (.int .i64 n)) (hy : evo l y = some (.int .i64 n)) (hz : zv P te = some [.slice none 0 0])
    (h0 : 0 ≤ n) (hb : (by_ : Int) * n ≤ 281474976710656) (hm : n ≤ 9223372036854775807)
    {l' : Value → List Value} (hl : ∀ v, lset l i v = some (l' v)) (k : ∀ v, v.oneCell' = true → WS P ro n0 w0 ds ops Q (osl te 1 v ((List.replicate n.toNat ((Value.slice none 0 0, []) : Value × List α)).map (·.1)).length ((List.replicate n.toNat ((Value.slice none 0 0, []) : Value × List α)).map (·.1)) :: star (lol f e (List.replicate n.toNat (.slice none 0 0, []))) :: L) rest (l' v)) :
    WS P ro n0 w0 ds ops Q L (⟨some i, .makeSlice T x y, ty, ps, af, none⟩ :: rest) l := by
  refine WS.weak (fun u hu => St.nilsL (f := f) (e := e) hu n.toNat) ?_
  refine WS.makeSlice (z := e) hT hx hy hz rfl h0 rfl hb hm hl fun v => ?_
  have e1 : (List.replicate n.toNat [Value.slice none 0 0]).flatten = (List.replicate n.toNat ((Value.slice none 0 0, []) : Value × List α)).map (·.1) := by
    generalize n.toNat = m
    induction m with
    | zero => rfl
    | succ m ih => simp [List.replicate_succ]
  rw [e1]
  refine WS.oc (j := 0) rfl fun hv => ?_
  have := k v hv
  simpa using this
theorem Star.olst {L : List SA} {S : Nat → Prop} {u : World} {e : TypeId} {v : Value} {xs : List α} {j : Nat} (hj : L[j]? = some (Go.Proofs.YtaeagngfhceceaaGreatDoor.olst f e v xs)) (h : Star L S u) : SlC u v xs.length 1 (xs.map f) := by
  obtain ⟨T, _, h2⟩ := h.get hj
  exact ownsRow_SlC h2.2
end
end
structure ChB (u : World) (b : Nat) (e : TypeId) (rows : List (List Bool)) (N : Int) (rv : Value) (gs : List Value) : Prop where
  bk : BlkAt u b [rv, .int .i64 N] e
  sp : SlC u rv rows.length 1 gs
  el : ∀ i : Int, 0 ≤ i → i < rows.length → SlC u (nth gs i) (nth rows i).length 1 ((nth rows i).map Value.bool)
theorem ChB.ext {w u : World} {b : Nat} {e : TypeId} {rows : List (List Bool)} {N : Int} {rv : Value} {gs : List Value} (h : ChB w b e rows N rv gs) (hb : Below w.heap.size w u) : ChB u b e rows N rv gs :=
  ⟨h.bk.ext hb, h.sp.ext hb, fun i h0 h1 => (h.el i h0 h1).ext hb⟩
theorem ChB.st {w0 u : World} {L : List SA} {b : Nat} {e : TypeId} {rows : List (List Bool)} {N : Int} {rv : Value} {gs : List Value} (h : ChB w0 b e rows N rv gs) (hu : St w0.heap.size w0 L u) : ChB u b e rows N rv gs := h.ext hu.below
def flagsOf (w s : Int) (cs : List Clue) : List (List Bool) := cs.map fun c => (allC w s).map (holdsT c)
theorem flagsOf_len (w s : Int) (cs : List Clue) : (flagsOf w s cs).length = cs.length := by simp [flagsOf]
theorem flagsOf_at {w s : Int} {cs : List Clue} {i : Int} (h0 : 0 ≤ i) (h1 : i < cs.length) : nth (flagsOf w s cs) i = (allC w s).map (holdsT (nth cs i)) := by
  have : i.toNat < cs.length := by omega
  simp [nth, List.getD, flagsOf, this]
section
variable {P : Program} {L : List SA} {w0 : World} {l : List Value} {d : Option Tmp} {ty : TypeId} {ps : String} {af : Array Edge} {g : Option (Nat × Bool)}
  {b : Nat} {e : TypeId} {rows : List (List Bool)} {N : Int} {rv : Value} {gs : List Value}
theorem det_chRow {T : TypeId} {x : Operand} {z : Nat} {i : Int} (hx : evo l x = some (.pointer (some (sla rv (i.toNat * 1))))) (h : ChB w0 b e rows N rv gs) (h0 : 0 ≤ i) (h1 : i < rows.length) (hT : tk P T = some (false, z)) :
    Det P (St w0.heap.size w0 L) ⟨d, .load T x, ty, ps, af, g⟩ l (nth gs i) :=
  det_loadS hx (fun _ hu => h.sp.st hu) (by
    have h2 := h.sp.len
    rw [Nat.mul_one] at h2 ⊢
    exact nth_at h0 (by omega)) hT
theorem det_chFlag {T : TypeId} {x : Operand} {z : Nat} {i k : Int} (hx : evo l x = some (.pointer (some (sla (nth gs i) (k.toNat * 1))))) (h : ChB w0 b e rows N rv gs) (h0 : 0 ≤ i) (h1 : i < rows.length) (hk : 0 ≤ k ∧ k < (nth rows i).length) (hT : tk P T = some (false, z)) :
    Det P (St w0.heap.size w0 L) ⟨d, .load T x, ty, ps, af, g⟩ l (.bool (nth (nth rows i) k)) :=
  det_loadS hx (fun _ hu => (h.el i h0 h1).st hu) (by
    rw [Nat.mul_one, List.getElem?_map, nth_at hk.1 hk.2]; rfl) hT
end
def moreF (w s : Int) (cs : List Clue) : Nat → List Nat → List Nat → Option (List Nat)
  | 0, ks, _ => if (readL w s (pickN cs ks)).length = 1 then some ks else none
  | n + 1, ks, us => go n ks us
where
  go (n : Nat) (ks : List Nat) : List Nat → Option (List Nat)
    | [] => none
    | i :: us => match moreF w s cs n (ks ++ [i]) us with
      | some r => some r
      | none => go n ks us
section
variable {w s : Int} {cs : List Clue}
theorem moreF_nil (n : Nat) (ks : List Nat) : moreF w s cs (n + 1) ks [] = none := by rw [moreF, moreF.go]
theorem moreF_some {n : Nat} {ks us r : List Nat} {i : Nat} (h : moreF w s cs n (ks ++ [i]) us = some r) : moreF w s cs (n + 1) ks (i :: us) = some r := by rw [moreF, moreF.go, h]
theorem moreF_none {n : Nat} {ks us : List Nat} {i : Nat} (h : moreF w s cs n (ks ++ [i]) us = none) : moreF w s cs (n + 1) ks (i :: us) = moreF w s cs (n + 1) ks us := by
  rw [moreF, moreF.go, h, moreF]
theorem any_fit {ks : List Nat} {x : List Int} : ((ks.map Int.ofNat).any fun i => !holdsT (nth cs i) x) = !fitB (pickN cs ks) x := by
  rw [fitB_all, pickN, List.all_map, List.any_map, List.not_all_eq_any_not]
  congr 1
end
theorem drop_getD {us : List Nat} {s : Int} (h0 : 0 ≤ s) (h1 : s < us.length) : us.drop s.toNat = us.getD s.toNat 0 :: us.drop (s + 1).toNat := by
  have hlt : s.toNat < us.length := by omega
  have e : (s + 1).toNat = s.toNat + 1 := by omega
  rw [e, List.drop_eq_getElem_cons hlt]
  simp [List.getD, hlt]
theorem moreRet {w0 : World} {L : List SA} {v : Value} {ys xs : List Int} {o : Bool} {j : Nat} (hn : nilB v = o) (hj : L[j]? = some (roI v ys)) (hx : ys = xs) :
    ∀ u, St w0.heap.size w0 L u → ∃ v' : Value, (nilB v' = o ∧ ∃ u0, SlI u0 v' xs) ∧ RetF w0 v' (roI v' xs) (.returned v) u := by
  subst hx
  exact fun u hu => ⟨v, ⟨hn, u, hu.roI hj⟩, retR (fun _ _ hs => hs.ro hj) u hu⟩
theorem moreRetN {w0 : World} {L : List SA} {xs : List Int} {o : Bool} (hn : true = o) (hx : [] = xs) :
    ∀ u, St w0.heap.size w0 L u → ∃ v' : Value, (nilB v' = o ∧ ∃ u0, SlI u0 v' xs) ∧ RetF w0 v' (roI v' xs) (.returned (.slice none 0 0)) u := by
  subst hx; subst hn
  exact fun u hu => ⟨_, ⟨rfl, u, SlI.none u⟩, retR (fun _ u _ => SlI.none u) u hu⟩
theorem St.toRoI {n0 : Nat} {w0 u : World} {L : List SA} {e : TypeId} {v : Value} {xs : List Int} (h : St n0 w0 (oints e v xs :: L) u) : St n0 w0 (Go.Proofs.YtaeagngfhceceaaGreatDoor.roI v xs :: L) u :=
  St.toRo (A := Go.Proofs.YtaeagngfhceceaaGreatDoor.oints e v xs) (p := fun u => SlI u v xs) (fun S u hA => ownsRow_SlC hA.2) h
theorem St.nilRoI {n0 : Nat} {w0 u : World} {L : List SA} (h : St n0 w0 L u) : St n0 w0 (Go.Proofs.YtaeagngfhceceaaGreatDoor.roI (.slice none 0 0) [] :: L) u :=
  St.toRo (p := fun u => SlI u (.slice none 0 0) []) (fun S u _ => SlI.none u) (h.osl0 (e := 0) (size := 1))
theorem WS.sn {P : Program} {ro : Option Nat} {n0 : Nat} {w0 : World} {ds : List Deferred} {ops : Array Oper} {Q : Exit → Act → World → Prop} {L : List SA}
    {rest : List Oper} {l : List Value} {e : TypeId} {j : Nat} {v : Value} {xs : List Int} (hj : L[j]? = some (oints e v xs)) (h0 : 0 < xs.length) (kk : nilB v = false → (∃ p n c, v = .slice p n c) → WS P ro n0 w0 ds ops Q L rest l) : WS P ro n0 w0 ds ops Q L rest l := fun u hu => by
  obtain ⟨h1, h2⟩ := nilB_some (oints_SlI hu hj) h0
  exact kk h1 h2 u hu
def usFrom (cs : List Clue) (xs : List Int) (i : Nat) : List Nat := (restN cs.length i).filter fun k => holdsT (cs.getD k default) xs
def usTo (cs : List Clue) (xs : List Int) (i : Nat) : List Nat := (List.range i).filter fun k => holdsT (cs.getD k default) xs
section
variable {w s : Int} {cs : List Clue} {xs : List Int}
theorem usFrom_lt {i : Nat} : ∀ k ∈ usFrom cs xs i, k < cs.length := fun k hk => (restN_mem (List.mem_filter.1 hk).1).2
theorem usTo_all : usTo cs xs cs.length = usFrom cs xs 0 := by unfold usTo usFrom; rw [restN_zero]
theorem usTo_yes {n : Int} (h0 : 0 ≤ n) (h : holdsT (nth cs n) xs = true) : (usTo cs xs (n + 1).toNat).map Int.ofNat = (usTo cs xs n.toNat).map Int.ofNat ++ [n] := by
  have e : (n + 1).toNat = n.toNat + 1 := by omega
  have e2 : ((n.toNat : Nat) : Int) = n := by omega
  have h2 : holdsT (cs.getD n.toNat default) xs = true := h
  rw [e, usTo, List.range_succ, List.filter_append, List.filter_cons, if_pos h2]
  simp [usTo, e2]
theorem usTo_no {n : Int} (h0 : 0 ≤ n) (h : holdsT (nth cs n) xs = false) : usTo cs xs (n + 1).toNat = usTo cs xs n.toNat := by
  have e : (n + 1).toNat = n.toNat + 1 := by omega
  have h2 : holdsT (cs.getD n.toNat default) xs = false := h
  rw [e, usTo, List.range_succ, List.filter_append, List.filter_cons, if_neg (by rw [h2]; simp)]
  simp [usTo]
theorem usTo_len (n : Nat) : (usTo cs xs n).length ≤ n := by
  have := List.length_filter_le (fun k => holdsT (cs.getD k default) xs) (List.range n)
  simpa [usTo] using this
def chF (w s : Int) (cs : List Clue) (xs : List Int) : Nat → Option (List Nat)
  | 0 => none
  | n + 1 => match chF w s cs xs n with
    | some r => some r
    | none => moreF w s cs (n + 1) [] (usFrom cs xs 0)
def chooseX (w s : Int) (cs : List Clue) (xs : List Int) : Option (List Nat) := chF w s cs xs (usFrom cs xs 0).length
theorem chF_next {n : Nat} (h : chF w s cs xs n = none) (h2 : moreF w s cs (n + 1) [] (usFrom cs xs 0) = none) : chF w s cs xs (n + 1) = none := by rw [chF, h]; exact h2
theorem chF_stay {n : Nat} {r : List Nat} (h : chF w s cs xs n = some r) : ∀ d, chF w s cs xs (n + d) = some r
  | 0 => h
  | d + 1 => by rw [← Nat.add_assoc, chF, chF_stay h d]
theorem chF_found {n m : Nat} {r : List Nat} (h : chF w s cs xs n = none) (h2 : moreF w s cs (n + 1) [] (usFrom cs xs 0) = some r) (hm : n + 1 ≤ m) : chF w s cs xs m = some r := by
  have h1 : chF w s cs xs (n + 1) = some r := by rw [chF, h]; exact h2
  have := chF_stay h1 (m - (n + 1))
  rwa [show n + 1 + (m - (n + 1)) = m by omega] at this
theorem moreF_len : ∀ (n : Nat) (ks us : List Nat), us.length < n → moreF w s cs n ks us = none
  | 0, _, _, h => by omega
  | n + 1, ks, [], _ => moreF_nil n ks
  | n + 1, ks, i :: us, h => by
    rw [moreF_none (moreF_len n (ks ++ [i]) us (by simpa using h))]
    exact moreF_len (n + 1) ks us (by simp at h; omega)
def chE (w s : Int) (cs : List Clue) (xs : List Int) : Int :=
  if ¬ lockE w s = 0 then lockE w s else if 12 < cs.length then 2 else if ¬ cluesE w s cs = 0 then cluesE w s cs else if ¬ codeE w s xs = 0 then codeE w s xs else if (chooseX w s cs xs).isNone then 3 else 0
def flgT (cs : List Clue) (pre : List (List Int)) (x : List Int) (i : Nat) : List (List Bool) := (List.range cs.length).map fun k => if k < i then (pre ++ [x]).map (holdsT (cs.getD k default)) else pre.map (holdsT (cs.getD k default))
theorem flgT_map (pre : List (List Int)) : (List.range cs.length).map (fun k => pre.map (holdsT (cs.getD k default))) = cs.map fun c => pre.map (holdsT c) := by
  apply List.ext_getElem
  · simp
  · intro i h1 h2
    have : i < cs.length := by simpa using h2
    simp [List.getD, this]
theorem flgT_zero {pre : List (List Int)} {x : List Int} : flgT cs pre x 0 = cs.map fun c => pre.map (holdsT c) := by
  rw [← flgT_map]; unfold flgT; simp
theorem flgT_end {pre : List (List Int)} {x : List Int} : flgT cs pre x cs.length = cs.map fun c => (pre ++ [x]).map (holdsT c) := by
  rw [← flgT_map]
  unfold flgT
  apply List.map_congr_left
  intro k hk
  rw [if_pos (by simpa using hk)]
theorem flgT_at {pre : List (List Int)} {x : List Int} {i : Nat} (h : i < cs.length) : (flgT cs pre x i)[i]? = some (pre.map (holdsT (cs.getD i default))) := by
  simp [flgT, h]
theorem flgT_set {pre : List (List Int)} {x : List Int} {i : Nat} (h : i < cs.length) : (flgT cs pre x i).set i (pre.map (holdsT (cs.getD i default)) ++ [holdsT (cs.getD i default) x]) = flgT cs pre x (i + 1) := by
  apply List.ext_getElem?
  intro k
  rw [List.getElem?_set]
  by_cases hk : k < cs.length
  · by_cases e : i = k
    · subst e
      rw [if_pos rfl, if_pos (by simp [flgT, h])]
      simp [flgT, h]
    · rw [if_neg e]
      have : (k < i) = (k < i + 1) := by simp; omega
      simp [flgT, hk, this]
  · rw [List.getElem?_eq_none (l := flgT cs pre x (i + 1)) (by simp [flgT]; omega)]
    rw [if_neg (by omega), List.getElem?_eq_none (by simp [flgT]; omega)]
theorem clCells_one {c : Clue} {g : Value} (hg : g.oneCell' = true) : ∀ y ∈ clCells c g, y.oneCell' = true := by
  intro y hy
  simp only [clCells, List.mem_cons, List.not_mem_nil, or_false] at hy
  rcases hy with rfl | rfl | rfl | rfl | rfl | rfl | rfl <;> first | rfl | exact hg
end
section
variable {n0 : Nat} {w0 u : World} {L : List SA}
theorem ChB_of {b j1 j2 j3 : Nat} {T te e : TypeId} {rv : Value} {N : Int} {pl : List (Value × List Bool)} {rows : List (List Bool)} (hu : St n0 w0 L u) (h1 : L[j1]? = some (blk b [rv, .int .i64 N] T)) (h2 : L[j2]? = some (osl te 1 rv (pl.map (·.1)).length (pl.map (·.1)))) (h3 : L[j3]? = some (star (lol Value.bool e pl)))
    (hp : pl.map (·.2) = rows) : ChB u b T rows N rv (pl.map (·.1)) := by
  subst hp
  refine ⟨st_blk hu h1, by simpa using osl_SlC hu h2, fun i h0 hi => ?_⟩
  have hlt : i.toNat < pl.length := by simp at hi; omega
  obtain ⟨S, _, hS⟩ := hu.get h3
  have := Star.olst (f := Value.bool) (j := i.toNat) (e := e) (v := (pl[i.toNat]).1) (xs := (pl[i.toNat]).2) (by simp [lol, hlt]) hS.1
  simpa [nth, List.getD, hlt] using this
end
theorem CS.drawnTillBut {P : Program} {ro : Option Nat} {n0 : Nat} {w0 : World} {ds : List Deferred} {Q : Exit → Act → World → Prop} {L : List SA} {l : List Value} (s j : Nat) {L0 : List SA} {id : Nat} {os : List Oper} {k : Nat} {bl : List Bool} (hm : P.follows .mixedOrders = true) (hk : os.length = k) (hb : List.replicate k false = bl)
    (_hL : lera L j = some L0) (h : AT P ro n0 w0 ds os.toArray Q (St n0 w0 L0) s L k bl l) :
    CS P ro n0 w0 ds (.region id os.toArray true) Q L l := by subst hb; exact CS.drawnZ s _ hm hk h
section
variable {w s : Int} {cs : List Clue} {xs : List Int}
theorem moreF_le {n : Nat} {ks us r : List Nat} (h : moreF w s cs n ks us = some r) : n ≤ us.length := by
  by_cases hl : us.length < n
  · rw [moreF_len n ks us hl] at h; cases h
  · omega
theorem usFrom_len : (usFrom cs xs 0).length ≤ cs.length := by
  have := List.length_filter_le (fun k => holdsT (cs.getD k default) xs) (restN cs.length 0)
  rw [restN_len] at this
  exact this
theorem readL_none (hL : lockB w s = true) : (readL w s (pickN cs [])).length = manyC w s := by
  rw [readL_eq, List.filter_eq_self.2 (fun x _ => by rw [fitB_all]; rfl), allC_len]
theorem manyC_two (hL : lockB w s = true) : 2 ≤ manyC w s := by
  have hl := lock_of hL
  have hp := manyC_pow (w := w) (s := s) (by omega)
  have h1 : (2 : Int) ^ 1 ≤ s ^ w.toNat := by
    have h2 := pow_bd4 (s := s) (by omega) (by omega) (k := w.toNat - 1) (by omega)
    have h3 : s ^ w.toNat = s ^ (w.toNat - 1) * s := by
      rw [← Int.pow_succ]
      congr 1
      omega
    rw [h3]
    have : 1 * s ≤ s ^ (w.toNat - 1) * s := Int.mul_le_mul_of_nonneg_right h2.1 (by omega)
    omega
  omega
theorem moreF_zero (hL : lockB w s = true) (us : List Nat) : moreF w s cs 0 [] us = none := by
  rw [moreF, readL_none hL, if_neg (by have := manyC_two hL; omega)]
end
end Go.Proofs.YtaeagngfhceceaaGreatDoor
namespace Go.Proofs.YtaeagngfhceceaaGreatDoor
set_option linter.unusedVariables false
set_option linter.unusedSimpArgs false
open Go.RowKit
section
variable {w s : Int} {cs : List Clue} {xs : List Int}
def sing (w s : Int) (cs : List Clue) (ks : List Nat) : Prop := (readL w s (pickN cs ks)).length = 1
theorem moreF_sound : ∀ (n : Nat) (us ks r : List Nat), moreF w s cs n ks us = some r → ∃ K, r = ks ++ K ∧ K.length = n ∧ K.Sublist us ∧ sing w s cs r
  | 0, us, ks, r, h => by
    rw [moreF] at h
    split at h
    · rename_i h1
      injection h with h
      subst h
      exact ⟨[], by simp, rfl, List.nil_sublist _, h1⟩
    · cases h
  | n + 1, [], ks, r, h => by rw [moreF_nil] at h; cases h
  | n + 1, i :: us, ks, r, h => by
    cases hm : moreF w s cs n (ks ++ [i]) us with
    | some r' =>
      rw [moreF_some hm] at h
      injection h with h
      subst h
      obtain ⟨K, h1, h2, h3, h4⟩ := moreF_sound n us (ks ++ [i]) r' hm
      exact ⟨i :: K, by rw [h1]; simp, by simp [h2], h3.cons_cons i, h4⟩
    | none =>
      rw [moreF_none hm] at h
      obtain ⟨K, h1, h2, h3, h4⟩ := moreF_sound (n + 1) us ks r h
      exact ⟨K, h1, h2, h3.cons i, h4⟩
theorem moreF_complete : ∀ (n : Nat) (us ks K : List Nat), us.Pairwise (· < ·) → K.Sublist us → K.length = n → sing w s cs (ks ++ K) →
    ∃ K', moreF w s cs n ks us = some (ks ++ K') ∧ beforeB (K.map Int.ofNat) (K'.map Int.ofNat) = false
  | 0, us, ks, K, _, _, hl, hs => by
    have : K = [] := List.eq_nil_of_length_eq_zero hl
    subst this
    refine ⟨[], ?_, rfl⟩
    rw [moreF, List.append_nil, if_pos (by simpa [sing] using hs)]
  | n + 1, [], ks, K, _, hsub, hl, _ => by
    have : K = [] := List.sublist_nil.1 hsub
    subst this; simp at hl
  | n + 1, i :: us, ks, K, hp, hsub, hl, hs => by
    rw [List.pairwise_cons] at hp
    cases hm : moreF w s cs n (ks ++ [i]) us with
    | some r =>
      rw [moreF_some hm]
      cases hsub with
      | cons_cons _ h1 =>
        rename_i K1
        obtain ⟨K', h2, h3⟩ := moreF_complete n us (ks ++ [i]) K1 hp.2 h1 (by simpa using hl) (by simpa using hs)
        rw [hm] at h2
        injection h2 with h2
        exact ⟨i :: K', by rw [h2]; simp, by simp [beforeB, h3]⟩
      | cons _ h1 =>
        obtain ⟨K1, h2, _, _, _⟩ := moreF_sound n us (ks ++ [i]) r hm
        refine ⟨i :: K1, by rw [h2]; simp, ?_⟩
        match K, hl with
        | k :: K, _ =>
          have hk := hp.1 k (h1.subset (by simp))
          simp only [List.map_cons, beforeB]
          rw [if_neg (by simp; omega)]
          simp; omega
    | none =>
      rw [moreF_none hm]
      cases hsub with
      | cons_cons _ h1 =>
        rename_i K1
        obtain ⟨K', h2, _⟩ := moreF_complete n us (ks ++ [i]) K1 hp.2 h1 (by simpa using hl) (by simpa using hs)
        rw [hm] at h2; cases h2
      | cons _ h1 => exact moreF_complete (n + 1) us ks K hp.2 h1 hl hs
theorem chF_least : ∀ (m : Nat) (r : List Nat), chF w s cs xs m = some r → ∃ n, 1 ≤ n ∧ n ≤ m ∧ moreF w s cs n [] (usFrom cs xs 0) = some r ∧ ∀ k, 1 ≤ k → k < n → moreF w s cs k [] (usFrom cs xs 0) = none
  | 0, r, h => by rw [chF] at h; cases h
  | m + 1, r, h => by
    cases hc : chF w s cs xs m with
    | some r' =>
      have := chF_stay hc 1
      rw [this] at h
      injection h with h
      subst h
      obtain ⟨n, h1, h2, h3, h4⟩ := chF_least m r' hc
      exact ⟨n, h1, by omega, h3, h4⟩
    | none =>
      rw [chF, hc] at h
      refine ⟨m + 1, by omega, by omega, h, fun k h1 h2 => ?_⟩
      exact chF_nones m hc k h1 (by omega)
where
  chF_nones : ∀ (m : Nat), chF w s cs xs m = none → ∀ k, 1 ≤ k → k ≤ m → moreF w s cs k [] (usFrom cs xs 0) = none
    | 0, _, k, h1, h2 => by omega
    | m + 1, h, k, h1, h2 => by
      cases hc : chF w s cs xs m with
      | some r' => rw [chF_stay hc 1] at h; cases h
      | none =>
        rw [chF, hc] at h
        by_cases hk : k = m + 1
        · rw [hk]; exact h
        · exact chF_nones m hc k h1 (by omega)
theorem sub_of_sorted : ∀ {U K : List Nat}, U.Pairwise (· < ·) → K.Pairwise (· < ·) → (∀ k ∈ K, k ∈ U) → K.Sublist U
  | U, [], _, _, _ => List.nil_sublist _
  | [], k :: K, _, _, h => by have := h k (by simp); simp at this
  | u :: U, k :: K, hU, hK, h => by
    rw [List.pairwise_cons] at hU hK
    have hku := h k (by simp)
    simp only [List.mem_cons] at hku
    by_cases e : k = u
    · subst e
      refine (sub_of_sorted hU.2 hK.2 fun x hx => ?_).cons_cons k
      have h1 := h x (by simp [hx])
      have h2 := hK.1 x hx
      simp only [List.mem_cons] at h1
      rcases h1 with h1 | h1
      · omega
      · exact h1
    · have hkU : k ∈ U := by rcases hku with h1 | h1; exact absurd h1 e; exact h1
      have hlt := hU.1 k hkU
      refine (sub_of_sorted (K := k :: K) hU.2 (List.pairwise_cons.2 hK) fun x hx => ?_).cons u
      have h1 := h x hx
      simp only [List.mem_cons] at h1 hx
      rcases h1 with h1 | h1
      · rcases hx with hx | hx
        · omega
        · have := hK.1 x hx; omega
      · exact h1
theorem usFrom_sorted : (usFrom cs xs 0).Pairwise (· < ·) := by
  unfold usFrom restN
  refine List.Pairwise.filter _ ?_
  rw [List.drop_zero]
  exact List.pairwise_lt_range
theorem usFrom_mem {k : Nat} : k ∈ usFrom cs xs 0 ↔ k < cs.length ∧ holdsT (cs.getD k default) xs = true := by
  unfold usFrom
  rw [restN_zero, List.mem_filter, List.mem_range]
theorem fit_pick {ks : List Nat} : fitB (pickN cs ks) xs = true ↔ ∀ k ∈ ks, holdsT (cs.getD k default) xs = true := by
  rw [fitB_all, List.all_eq_true]
  unfold pickN
  constructor
  · intro h k hk; exact h _ (List.mem_map_of_mem hk)
  · intro h c hc
    obtain ⟨k, hk, rfl⟩ := List.mem_map.1 hc
    exact h k hk
theorem choose_sound {r : List Nat} (h : chooseX w s cs xs = some r) : sing w s cs r ∧ (∀ k ∈ r, k < cs.length) ∧ fitB (pickN cs r) xs = true ∧ r.length ≤ cs.length := by
  obtain ⟨n, h1, h2, h3, _⟩ := chF_least _ r h
  obtain ⟨K, e, h5, h6, h7⟩ := moreF_sound n _ _ _ h3
  rw [List.nil_append] at e
  subst e
  have hm : ∀ k ∈ r, k < cs.length ∧ holdsT (cs.getD k default) xs = true := fun k hk => usFrom_mem.1 (h6.subset hk)
  have hl := usFrom_len (cs := cs) (xs := xs)
  exact ⟨h7, fun k hk => (hm k hk).1, fit_pick.2 fun k hk => (hm k hk).2, by omega⟩
theorem choose_best (hL : lockB w s = true) {K : List Nat} (hs : K.Pairwise (· < ·)) (hk : ∀ k ∈ K, k < cs.length) (hf : fitB (pickN cs K) xs = true) (h1 : sing w s cs K) :
    ∃ r, chooseX w s cs xs = some r ∧ r.length ≤ K.length ∧ (r.length = K.length → beforeB (K.map Int.ofNat) (r.map Int.ofNat) = false) := by
  have hsub : K.Sublist (usFrom cs xs 0) := sub_of_sorted usFrom_sorted hs fun k hkk => usFrom_mem.2 ⟨hk k hkk, fit_pick.1 hf k hkk⟩
  obtain ⟨K', hm, hb⟩ := moreF_complete (w := w) (s := s) (cs := cs) K.length (usFrom cs xs 0) [] K usFrom_sorted hsub rfl (by simpa using h1)
  rw [List.nil_append] at hm
  have hpos : 1 ≤ K.length := by
    rcases Nat.eq_zero_or_pos K.length with h | h
    · rw [h, moreF_zero hL] at hm; cases hm
    · exact h
  have hle := moreF_le hm
  cases hc : chooseX w s cs xs with
  | none => rw [chF_least.chF_nones _ hc K.length hpos hle] at hm; cases hm
  | some r =>
    obtain ⟨n, n1, n2, n3, n4⟩ := chF_least _ r hc
    obtain ⟨K2, e, h5, _, _⟩ := moreF_sound n _ _ _ n3
    rw [List.nil_append] at e
    subst e
    refine ⟨r, rfl, ?_, fun he => ?_⟩
    · by_cases hlt : K.length < n
      · rw [n4 K.length hpos hlt] at hm; cases hm
      · omega
    · rw [← h5, he, hm] at n3
      injection n3 with n3
      rw [← n3]; exact hb
def pickI (cs : List Clue) (zs : List Int) : List Clue := pickN cs (zs.map Int.toNat)
theorem pickI_len (cs : List Clue) (zs : List Int) : (pickI cs zs).length = zs.length := by simp [pickI, pickN_len]
theorem chE_val (hce : cluesE w s cs = 0) (hx : codeB w s xs = true) (h12 : cs.length ≤ 12) : chE w s cs xs = if (chooseX w s cs xs).isNone then 3 else 0 := by
  have hL := cluesE_lock hce
  unfold chE
  rw [if_neg (by simp [lockE, hL]), if_neg (by omega), if_neg (by simp [hce]), if_neg (by simp [codeE_of hL hx])]
theorem ofNat_toNat (r : List Nat) : (r.map Int.ofNat).map Int.toNat = r := by
  rw [List.map_map]
  conv => rhs; rw [← List.map_id r]
  exact List.map_congr_left fun k _ => by simp
theorem pickI_snoc (cs : List Clue) (zs : List Int) {i : Int} (h0 : 0 ≤ i) (h1 : i < zs.length) : pickI cs (zs.take (i + 1).toNat) = pickI cs (zs.take i.toNat) ++ [nth cs (nth zs i)] := by
  unfold pickI
  rw [take_snocI zs h0 h1, List.map_append, pickN_app]
  rfl
end
def pickG (gs : List Value) (zs : List Int) : List Value := pickN gs (zs.map Int.toNat)
theorem pickG_len (gs : List Value) (zs : List Int) : (pickG gs zs).length = zs.length := by simp [pickG, pickN_len]
theorem pickG_snoc (gs : List Value) (zs : List Int) {i : Int} (h0 : 0 ≤ i) (h1 : i < zs.length) : pickG gs (zs.take (i + 1).toNat) = pickG gs (zs.take i.toNat) ++ [nth gs (nth zs i)] := by
  unfold pickG
  rw [take_snocI zs h0 h1, List.map_append, pickN_app]
  rfl
end Go.Proofs.YtaeagngfhceceaaGreatDoor
namespace Go.Proofs.YtaeagngfhceceaaGreatDoor
set_option linter.unusedVariables false
set_option linter.unusedSimpArgs false
open Go.RowKit
section
variable {w s : Int} {L : List (List Int)}
end
section
variable {w s : Int} {cs : List Clue}
theorem prE_of (h : cluesE w s cs = 0) : (prE w s cs = 0 ↔ 1 < (readL w s cs).length) ∧ (prE w s cs = 0 ∨ prE w s cs = 3) := by
  unfold prE
  rw [if_pos h]
  split <;> omega
end
end Go.Proofs.YtaeagngfhceceaaGreatDoor
