/- Plain laws on the next guess: how many readings answer alike; the first best guess. No program in sight. -/
import Derived.Test.YtldagbcceefcdaaPlain
import Derived.Test.YtldagbcceefcdaaSub
namespace Go.Proofs.Ytldagbcceefcdaa
set_option linter.unusedVariables false
set_option linter.unusedSimpArgs false
open Go.RowKit

def comN (y x : List Int) : Int := commonN y x 10 - rightN y x
/-- How many answer r and c to x. -/
def cntRC (L : List (List Int)) (x : List Int) (r c : Int) : Int := ((L.filter fun y => decide (rightN y x = r) && decide (comN y x = c)).length : Int)
def maxL : List Int → Int
  | [] => 0
  | a :: l => max a (maxL l)
theorem maxL_snoc : ∀ (l : List Int) (a : Int), 0 ≤ a → maxL (l ++ [a]) = max (maxL l) a
  | [], a, h => by simp only [List.nil_append, maxL]; omega
  | b :: l, a, h => by simp only [List.cons_append, maxL, maxL_snoc l a h]; omega
theorem maxL_nonneg : ∀ l : List Int, 0 ≤ maxL l
  | [] => by simp [maxL]
  | a :: l => by have := maxL_nonneg l; simp only [maxL]; omega
theorem maxL_ge : ∀ {l : List Int} {a : Int}, a ∈ l → a ≤ maxL l
  | b :: l, a, h => by
    simp only [List.mem_cons] at h
    simp only [maxL]
    rcases h with rfl | h
    · omega
    · have := maxL_ge h; omega
theorem maxL_le : ∀ {l : List Int} {m : Int}, 0 ≤ m → (∀ a ∈ l, a ≤ m) → maxL l ≤ m
  | [], m, h, _ => h
  | b :: l, m, h, ha => by
    have h1 := ha b (by simp)
    have h2 := maxL_le h (fun a h => ha a (by simp [h]) : ∀ a ∈ l, a ≤ m)
    simp only [maxL]; omega
def cA (L : List (List Int)) (x y : List Int) : Int := cntRC L x (rightN y x) (comN y x)
/-- The greatest number of readings with one answer. -/
def wN (L : List (List Int)) (x : List Int) : Int := maxL (L.map (cA L x))
theorem cntRC_snoc (L : List (List Int)) (x y : List Int) (r c : Int) : cntRC (L ++ [y]) x r c = cntRC L x r c + if rightN y x = r ∧ comN y x = c then 1 else 0 := by
  unfold cntRC
  by_cases h1 : rightN y x = r <;> by_cases h2 : comN y x = c <;> simp [List.filter_append, List.filter_cons, h1, h2]
theorem cntRC_bd (L : List (List Int)) (x : List Int) (r c : Int) : 0 ≤ cntRC L x r c ∧ cntRC L x r c ≤ L.length := by
  unfold cntRC
  have := List.length_filter_le (fun y => decide (rightN y x = r) && decide (comN y x = c)) L
  omega
theorem wN_nil (x : List Int) : wN [] x = 0 := rfl
theorem wN_bd (L : List (List Int)) (x : List Int) : 0 ≤ wN L x ∧ wN L x ≤ L.length := by
  refine ⟨maxL_nonneg _, maxL_le (by omega) fun a ha => ?_⟩
  obtain ⟨y, _, rfl⟩ := List.mem_map.1 ha
  exact (cntRC_bd _ _ _ _).2
theorem wN_snoc (L : List (List Int)) (x y : List Int) : wN (L ++ [y]) x = max (wN L x) (cA (L ++ [y]) x y) := by
  have h0 := (cntRC_bd (L ++ [y]) x (rightN y x) (comN y x)).1
  have h1 := (wN_bd L x).1
  apply Int.le_antisymm
  · refine maxL_le (by unfold cA; omega) fun a ha => ?_
    obtain ⟨z, hz, rfl⟩ := List.mem_map.1 ha
    by_cases h : rightN y x = rightN z x ∧ comN y x = comN z x
    · have : cA (L ++ [y]) x z = cA (L ++ [y]) x y := by unfold cA; rw [h.1, h.2]
      omega
    · have h2 : z ∈ L := by
        simp only [List.mem_append, List.mem_singleton] at hz
        rcases hz with hz | rfl
        · exact hz
        · exact absurd ⟨rfl, rfl⟩ h
      have h3 : cA (L ++ [y]) x z = cA L x z := by
        show cntRC (L ++ [y]) x _ _ = cntRC L x _ _
        rw [cntRC_snoc, if_neg h]; omega
      have h4 : cA L x z ≤ wN L x := maxL_ge (List.mem_map_of_mem h2)
      omega
  · have h2 : cA (L ++ [y]) x y ≤ wN (L ++ [y]) x := maxL_ge (List.mem_map_of_mem (by simp))
    have h3 : wN L x ≤ wN (L ++ [y]) x := by
      refine maxL_le (maxL_nonneg _) fun a ha => ?_
      obtain ⟨z, hz, rfl⟩ := List.mem_map.1 ha
      have h4 : cA (L ++ [y]) x z ≤ wN (L ++ [y]) x := maxL_ge (List.mem_map_of_mem (by simp [hz]))
      have h5 : cA L x z ≤ cA (L ++ [y]) x z := by
        show cntRC L x _ _ ≤ cntRC (L ++ [y]) x _ _
        rw [cntRC_snoc]; split <;> omega
      omega
    omega
/-- The table of answers. -/
def tabC (L : List (List Int)) (x : List Int) : List Value := (List.range 25).map fun k : Nat => Value.int .i64 (cntRC L x ((k / 5 : Nat) : Int) ((k % 5 : Nat) : Int))
theorem tabC_len (L : List (List Int)) (x : List Int) : (tabC L x).length = 25 := by simp [tabC]
theorem tabC_nil (x : List Int) : tabC [] x = List.replicate 25 (Value.int .i64 0) := by
  have h : ∀ r c, cntRC [] x r c = 0 := fun r c => rfl
  simp only [tabC, h]
  rfl
theorem tabC_at {L : List (List Int)} {x : List Int} {r c : Int} (h : 0 ≤ r ∧ r ≤ 4) (h2 : 0 ≤ c ∧ c ≤ 4) : (tabC L x)[0 + r.toNat * 5 + c.toNat * 1]? = some (.int .i64 (cntRC L x r c)) := by
  have h3 : 0 + r.toNat * 5 + c.toNat * 1 < 25 := by omega
  have h4 : ((0 + r.toNat * 5 + c.toNat * 1) / 5 : Nat) = r.toNat := by omega
  have h5 : ((0 + r.toNat * 5 + c.toNat * 1) % 5 : Nat) = c.toNat := by omega
  have e1 : ((r.toNat : Nat) : Int) = r := by omega
  have e2 : ((c.toNat : Nat) : Int) = c := by omega
  simp only [tabC, List.getElem?_map, List.getElem?_range h3, Option.map_some, h4, h5, e1, e2]
theorem tabC_set {L : List (List Int)} {x y : List Int} (h : 0 ≤ rightN y x ∧ rightN y x ≤ 4) (h2 : 0 ≤ comN y x ∧ comN y x ≤ 4) :
    (tabC L x).set (0 + (rightN y x).toNat * 5 + (comN y x).toNat * 1) (.int .i64 (cntRC L x (rightN y x) (comN y x) + 1)) = tabC (L ++ [y]) x := by
  apply List.ext_getElem?
  intro k
  by_cases hk : k < 25
  · rw [List.getElem?_set]
    by_cases hq : 0 + (rightN y x).toNat * 5 + (comN y x).toNat * 1 = k
    · have h3 : ((k / 5 : Nat) : Int) = rightN y x := by omega
      have h4 : ((k % 5 : Nat) : Int) = comN y x := by omega
      rw [if_pos hq, if_pos (by rw [tabC_len]; omega)]
      simp only [tabC, List.getElem?_map, List.getElem?_range hk, Option.map_some, h3, h4, cntRC_snoc]
      simp
    · rw [if_neg hq]
      simp only [tabC, List.getElem?_map, List.getElem?_range hk, Option.map_some, cntRC_snoc]
      rw [if_neg (by omega)]
      simp
  · rw [List.getElem?_eq_none (by simp [tabC]; omega), List.getElem?_eq_none (by simp [tabC]; omega)]
/-- Which of the first i codes is the first best guess. -/
def bestJ (L : List (List Int)) : Nat → Nat
  | 0 => 0
  | i + 1 => if i = 0 then 0 else if wN L (nth L i) < wN L (nth L (bestJ L i)) then i else bestJ L i
theorem bestJ_lt (L : List (List Int)) : ∀ i, 0 < i → bestJ L i < i
  | 0, h => by omega
  | i + 1, _ => by
    simp only [bestJ]
    split
    · omega
    · split
      · omega
      · have := bestJ_lt L i (by omega); omega
def nxE (w s : Int) (cs : List Clue) : Int := if cluesE w s cs = 0 then (if (readL w s cs).length = 0 then 3 else if 200 < (readL w s cs).length then 2 else 0) else cluesE w s cs
def nxG (w s : Int) (cs : List Clue) : List Int := nth (readL w s cs) (bestJ (readL w s cs) (readL w s cs).length)
theorem ans_bd {w s : Int} {x y : List Int} (hL : lockB w s = true) (hx : codeB w s x = true) (hy : codeB w s y = true) : (0 ≤ rightN y x ∧ rightN y x ≤ 4) ∧ (0 ≤ comN y x ∧ comN y x ≤ 4) := by
  have h1 := code_ten hL hy
  have h2 := right_common (ys := x) h1.2
  have h3 := common_len (ys := x) h1.2
  have h4 := rightN_le y x
  unfold comN
  omega
/-- What the walk over the guesses holds. -/
structure NextI (L : List (List Int)) (gs : List Value) (i : Int) (v : Value) (m : Int) : Prop where
  lo : i = 0 → v = .slice none 0 0 ∧ m = 0
  hi : 0 < i → v = nth gs (bestJ L i.toNat) ∧ m = wN L (nth L (bestJ L i.toNat))
def nilB : Value → Bool
  | .slice none _ _ => true
  | _ => false
theorem nilB_some {u : World} {v : Value} {xs : List Int} (h : SlI u v xs) (h0 : 0 < xs.length) : nilB v = false ∧ ∃ p n c, v = .slice p n c := by
  obtain ⟨_, p, cap, rfl, _, h2⟩ := h
  rcases h2 with h2 | ⟨b, o, rfl, _⟩
  · omega
  · exact ⟨rfl, _, _, _, rfl⟩
section
variable {L : List (List Int)} {gs : List Value} {i m : Int} {v : Value}
theorem NextI.start : NextI L gs 0 (.slice none 0 0) 0 := ⟨fun _ => ⟨rfl, rfl⟩, fun h => by omega⟩
theorem NextI.nil {u : World} {lv : Value} (h : NextI L gs i v m) (hs : SlL u lv L gs) (h0 : 0 ≤ i) (h1 : i ≤ L.length) (hp : ∀ j : Int, 0 ≤ j → j < L.length → 0 < (nth L j).length) : nilB v = decide (i = 0) ∧ ∃ p n c, v = .slice p n c := by
  by_cases hi : i = 0
  · obtain ⟨rfl, _⟩ := h.lo hi
    exact ⟨by simp [hi, nilB], _, _, _, rfl⟩
  · obtain ⟨rfl, _⟩ := h.hi (by omega)
    have hb := bestJ_lt L i.toNat (by omega)
    have := nilB_some (hs.el (bestJ L i.toNat) (by omega) (by omega)) (hp _ (by omega) (by omega))
    exact ⟨by rw [this.1]; simp [hi], this.2⟩
theorem NextI.take (h : NextI L gs i v m) (h0 : 0 ≤ i) (hc : nilB v = true ∨ wN L (nth L i) < m) (hn : nilB v = decide (i = 0)) : NextI L gs (i + 1) (nth gs i) (wN L (nth L i)) := by
  have e : (i + 1).toNat = i.toNat + 1 := by omega
  have e2 : ((i.toNat : Nat) : Int) = i := by omega
  refine ⟨fun h => by omega, fun _ => ?_⟩
  have : bestJ L (i + 1).toNat = i.toNat := by
    rw [e, bestJ]
    by_cases hi : i.toNat = 0
    · rw [if_pos hi, hi]
    · rw [if_neg hi, if_pos]
      have h2 := (h.hi (by omega)).2
      rw [hn] at hc
      rcases hc with hc | hc
      · simp at hc; omega
      · rw [e2, ← h2]; exact hc
  rw [this, e2]
  exact ⟨rfl, rfl⟩
theorem NextI.take1 (h : NextI L gs i v m) (h0 : 1 ≤ i) (hc : wN L (nth L i) < m) : NextI L gs (i + 1) (nth gs i) (wN L (nth L i)) := by
  have e : (i + 1).toNat = i.toNat + 1 := by omega
  have e2 : ((i.toNat : Nat) : Int) = i := by omega
  refine ⟨fun h => by omega, fun _ => ?_⟩
  have : bestJ L (i + 1).toNat = i.toNat := by
    rw [e, bestJ, if_neg (by omega), if_pos]
    have h2 := (h.hi (by omega)).2
    rw [e2, ← h2]; exact hc
  rw [this, e2]
  exact ⟨rfl, rfl⟩
theorem NextI.leave1 (h : NextI L gs i v m) (h0 : 1 ≤ i) (hc : ¬ wN L (nth L i) < m) : NextI L gs (i + 1) v m := by
  have e : (i + 1).toNat = i.toNat + 1 := by omega
  have e2 : ((i.toNat : Nat) : Int) = i := by omega
  refine ⟨fun h => by omega, fun _ => ?_⟩
  have h2 := h.hi (by omega)
  have : bestJ L (i + 1).toNat = bestJ L i.toNat := by
    rw [e, bestJ, if_neg (by omega), if_neg]
    rw [e2, ← h2.2]; exact hc
  rw [this]
  exact h2
theorem NextI.leave (h : NextI L gs i v m) (h0 : 0 ≤ i) (hc : nilB v = false ∧ ¬ wN L (nth L i) < m) (hn : nilB v = decide (i = 0)) : NextI L gs (i + 1) v m := by
  have e : (i + 1).toNat = i.toNat + 1 := by omega
  have e2 : ((i.toNat : Nat) : Int) = i := by omega
  have hi : ¬ i.toNat = 0 := by rw [hn] at hc; simp at hc; omega
  refine ⟨fun h => by omega, fun _ => ?_⟩
  have h2 := h.hi (by omega)
  have : bestJ L (i + 1).toNat = bestJ L i.toNat := by
    rw [e, bestJ, if_neg hi, if_neg]
    rw [e2, ← h2.2]; exact hc.2
  rw [this]
  exact h2
end
section
variable {P : Program} {l : List Value} {d : Option Tmp} {ty : TypeId} {ps : String} {af : Array Edge} {g : Option (Nat × Bool)} {C : World → Prop}
theorem det_eqnilV {T e : TypeId} {a b : Nat} {T' : TypeId} {x y : Operand} {v : Value} (hT : sl P T = some (e, a, b)) (hx : evo l x = some v) (hy : evo l y = some (.slice none 0 0)) (hv : ∃ p n c, v = .slice p n c) :
    Det P C ⟨d, .binOp .eql T x y T', ty, ps, af, g⟩ l (.bool (nilB v)) := by
  obtain ⟨p, n, c, rfl⟩ := hv
  have := det_eqnil (P := P) (C := C) (d := d) (ty := ty) (ps := ps) (af := af) (g := g) (T' := T') hT hx hy
  cases p <;> exact this
theorem det_nenilV {T e : TypeId} {a b : Nat} {T' : TypeId} {x y : Operand} {v : Value} (hT : sl P T = some (e, a, b)) (hx : evo l x = some v) (hy : evo l y = some (.slice none 0 0)) (hv : ∃ p n c, v = .slice p n c) :
    Det P C ⟨d, .binOp .neq T x y T', ty, ps, af, g⟩ l (.bool (!nilB v)) := by
  obtain ⟨p, n, c, rfl⟩ := hv
  have := det_nenil (P := P) (C := C) (d := d) (ty := ty) (ps := ps) (af := af) (g := g) (T' := T') hT hx hy
  cases p <;> exact this
end
end Go.Proofs.Ytldagbcceefcdaa
