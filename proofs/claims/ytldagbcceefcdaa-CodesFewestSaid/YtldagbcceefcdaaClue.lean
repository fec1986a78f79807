import Derived.Test.YtldagbcceefcdaaDraw
/- part Codes -/
/- Codes, clues and readings as plain functions. No program in sight. -/
namespace Go.Proofs.Ytldagbcceefcdaa
set_option linter.unusedVariables false
set_option linter.unusedSimpArgs false
open Go.RowKit

structure Clue where
  k : Int
  a : Int
  b : Int
  n : Int
  m : Int
  g : List Int
  nt : Bool
  deriving DecidableEq
instance : Inhabited Clue := ⟨⟨0, 0, 0, 0, 0, [], false⟩⟩

def within (n lo hi : Int) : Bool := decide (lo ≤ n) && decide (n ≤ hi)
def lockB (w s : Int) : Bool := within w 1 4 && within s 2 10
def lockE (w s : Int) : Int := if lockB w s then 0 else 10
def codeB (w s : Int) (xs : List Int) : Bool := decide ((xs.length : Int) = w) && xs.all fun x => within x 0 (s - 1)
def codeE (w s : Int) (xs : List Int) : Int := if lockB w s then if codeB w s xs then 0 else 12 else 10

/-- How many places hold the same in both. -/
def rightN : List Int → List Int → Int
  | x :: xs, y :: ys => (if x = y then 1 else 0) + rightN xs ys
  | _, _ => 0
def cnt (xs : List Int) (s : Int) : Int := ((xs.filter fun x => decide (x = s)).length : Int)
def commonN (xs ys : List Int) : Nat → Int
  | 0 => 0
  | n + 1 => commonN xs ys n + min (cnt xs n) (cnt ys n)

theorem lock_of {w s : Int} (h : lockB w s = true) : 1 ≤ w ∧ w ≤ 4 ∧ 2 ≤ s ∧ s ≤ 10 := by
  simp [lockB, within] at h; omega
theorem code_of {w s : Int} {xs : List Int} (h : codeB w s xs = true) : (xs.length : Int) = w ∧ ∀ x ∈ xs, 0 ≤ x ∧ x ≤ s - 1 := by
  simp [codeB, within] at h; exact h
theorem code_nth {w s : Int} {xs : List Int} (h : codeB w s xs = true) {i : Int} (h0 : 0 ≤ i) (h1 : i < xs.length) : 0 ≤ nth xs i ∧ nth xs i ≤ s - 1 := (code_of h).2 _ (nth_mem h0 h1)

theorem cnt_nil (s : Int) : cnt [] s = 0 := rfl
theorem cnt_snoc (xs : List Int) (y s : Int) : cnt (xs ++ [y]) s = cnt xs s + if y = s then 1 else 0 := by
  unfold cnt
  by_cases h : y = s <;> simp [List.filter_append, List.filter_cons, h]
theorem cnt_le (xs : List Int) (s : Int) : 0 ≤ cnt xs s ∧ cnt xs s ≤ xs.length := by
  unfold cnt
  have := List.length_filter_le (fun x => decide (x = s)) xs
  omega
/-- The first places, one more. -/
theorem take_snocI {α : Type} [Inhabited α] (xs : List α) {i : Int} (h0 : 0 ≤ i) (h1 : i < xs.length) : xs.take (i + 1).toNat = xs.take i.toNat ++ [nth xs i] := by
  have e : (i + 1).toNat = i.toNat + 1 := by omega
  have hlt : i.toNat < xs.length := by omega
  rw [e, List.take_succ_eq_append_getElem hlt]
  simp [nth, List.getD, hlt]
theorem take_all {α : Type} (xs : List α) {i : Int} (h : xs.length ≤ i) : xs.take i.toNat = xs := List.take_of_length_le (by omega)
theorem rightN_snoc : ∀ (xs ys : List Int) (x y : Int), xs.length = ys.length → rightN (xs ++ [x]) (ys ++ [y]) = rightN xs ys + if x = y then 1 else 0
  | [], [], x, y, _ => by simp [rightN]
  | a :: xs, b :: ys, x, y, h => by
    simp only [List.cons_append, rightN]
    rw [rightN_snoc xs ys x y (by simpa using h)]
    omega
  | [], _ :: _, _, _, h => by simp at h
  | _ :: _, [], _, _, h => by simp at h
theorem rightN_le : ∀ (xs ys : List Int), 0 ≤ rightN xs ys ∧ rightN xs ys ≤ xs.length
  | [], _ => by simp [rightN]
  | _ :: _, [] => by simp [rightN]; omega
  | x :: xs, y :: ys => by
    have := rightN_le xs ys
    simp only [rightN, List.length_cons]
    split <;> omega
theorem rightN_take (xs ys : List Int) (hl : xs.length = ys.length) {i : Int} (h0 : 0 ≤ i) (h1 : i < xs.length) :
    rightN (xs.take (i + 1).toNat) (ys.take (i + 1).toNat) = rightN (xs.take i.toNat) (ys.take i.toNat) + if nth xs i = nth ys i then 1 else 0 := by
  rw [take_snocI xs h0 h1, take_snocI ys h0 (by omega), rightN_snoc _ _ _ _ (by simp; omega)]
theorem commonN_bd (xs ys : List Int) : ∀ n : Nat, 0 ≤ commonN xs ys n ∧ commonN xs ys n ≤ n * xs.length
  | 0 => by simp [commonN]
  | n + 1 => by
    have h := commonN_bd xs ys n
    have h1 := cnt_le xs n
    have h2 := cnt_le ys n
    simp only [commonN]
    have e : ((n + 1 : Nat) : Int) * (xs.length : Int) = (n : Int) * xs.length + xs.length := by rw [Int.natCast_succ, Int.add_mul, Int.one_mul]
    omega
theorem codeB_all {w s : Int} {xs : List Int} (hl : (xs.length : Int) = w) (h : ∀ j : Int, 0 ≤ j → j < xs.length → within (nth xs j) 0 (s - 1) = true) : codeB w s xs = true := by
  unfold codeB
  simp only [hl, decide_true, Bool.true_and, List.all_eq_true]
  intro x hx
  obtain ⟨i, h0, h1, rfl⟩ := mem_nth hx
  exact h i h0 h1
theorem codeB_len {w s : Int} {xs : List Int} (h : ¬ (xs.length : Int) = w) : codeB w s xs = false := by simp [codeB, h]
theorem codeB_bad {w s : Int} {xs : List Int} {i : Int} (h0 : 0 ≤ i) (h1 : i < xs.length) (h : within (nth xs i) 0 (s - 1) = false) : codeB w s xs = false := by
  cases hb : codeB w s xs with
  | false => rfl
  | true =>
    have := code_nth hb h0 h1
    simp [within] at h
    omega

/-- The cells of an array that counts symbols. -/
def tally (xs : List Int) : List Value := (List.range 10).map fun k : Nat => Value.int .i64 (cnt xs (k : Int))
theorem tally_len (xs : List Int) : (tally xs).length = 10 := by simp [tally]
theorem tally_nil : tally [] = List.replicate 10 (Value.int .i64 0) := rfl
theorem tally_at {xs : List Int} {y : Int} (h0 : 0 ≤ y) (h1 : y < 10) : (tally xs)[0 + y.toNat * 1]? = some (.int .i64 (cnt xs y)) := by
  have : y.toNat < 10 := by omega
  have e : ((y.toNat : Nat) : Int) = y := by omega
  simp [tally, this, e]
theorem tally_set {xs : List Int} {y : Int} (h0 : 0 ≤ y) (h1 : y < 10) : (tally xs).set (0 + y.toNat * 1) (.int .i64 (cnt xs y + 1)) = tally (xs ++ [y]) := by
  apply List.ext_getElem?
  intro k
  by_cases hk : k < 10
  · rw [List.getElem?_set]
    by_cases e : 0 + y.toNat * 1 = k
    · have e2 : (k : Int) = y := by omega
      rw [if_pos e, if_pos (by rw [tally_len]; omega)]
      simp [tally, hk, cnt_snoc, e2]
    · have e2 : ¬ y = (k : Int) := by omega
      rw [if_neg e]
      simp [tally, hk, cnt_snoc, e2]
  · rw [List.getElem?_eq_none (by simp [tally]; omega), List.getElem?_eq_none (by simp [tally]; omega)]
end Go.Proofs.Ytldagbcceefcdaa

/- part Clue -/
/- Clues as plain data, and as they lie in memory. No program in sight. -/
namespace Go.Proofs.Ytldagbcceefcdaa
set_option linter.unusedVariables false
set_option linter.unusedSimpArgs false
open Go.RowKit

def lsum : List Int → Int
  | [] => 0
  | x :: xs => x + lsum xs
theorem SlI.shape {u : World} {v : Value} {xs : List Int} (h : SlI u v xs) : ∃ p cap, v = .slice p xs.length cap := by
  obtain ⟨_, p, cap, h, _⟩ := h
  exact ⟨p, cap, h⟩
theorem lsum_snoc : ∀ (xs : List Int) (y : Int), lsum (xs ++ [y]) = lsum xs + y
  | [], y => by simp [lsum]
  | x :: xs, y => by simp [lsum, lsum_snoc xs y]; omega
theorem lsum_bd : ∀ (xs : List Int), (∀ x ∈ xs, 0 ≤ x ∧ x < 10) → 0 ≤ lsum xs ∧ lsum xs ≤ 10 * xs.length
  | [], _ => by simp [lsum]
  | x :: xs, h => by
    have h1 := lsum_bd xs fun y hy => h y (by simp [hy])
    have h2 := h x (by simp)
    simp only [lsum, List.length_cons]
    omega
/-- The places from a to b, both included. -/
def part (xs : List Int) (a b : Int) : List Int := (xs.drop a.toNat).take ((b + 1).toNat - a.toNat)

/-- A clue is valid. -/
def clueB (w s : Int) (c : Clue) : Bool :=
  if c.k = 1 then within c.a 0 (w - 1) && within c.n 0 (s - 1) && decide (c.b = 0 ∧ c.m = 0 ∧ c.g = [])
  else if c.k = 2 then within c.a 0 (w - 1) && within c.b 0 (w - 1) && decide (c.a ≤ c.b) && within c.n 0 100 && decide (c.m = 0 ∧ c.g = [])
  else if c.k = 3 ∨ c.k = 4 then within c.a 0 (w - 1) && within c.b 0 (w - 1) && decide (c.a ≠ c.b) && decide (c.n = 0 ∧ c.m = 0 ∧ c.g = [])
  else if c.k = 5 then within c.n 0 (s - 1) && within c.m 0 w && decide (c.a = 0 ∧ c.b = 0 ∧ c.g = [])
  else if c.k = 6 then within c.n 0 w && within c.m 0 w && codeB w s c.g && decide (c.a = 0 ∧ c.b = 0)
  else if c.k = 7 then within c.a 0 (w - 1) && within c.n 2 10 && within c.m 0 (c.n - 1) && decide (c.b = 0 ∧ c.g = [])
  else false
/-- What a clue used, on the way through the cases. -/
structure Used where
  is : Bool
  a : Int
  b : Int
  n : Int
  m : Int
  q : Option Addr
  l : Nat
  cap : Nat
def usedB (c : Clue) (s : Used) : Bool := s.is && decide (c.a = s.a) && decide (c.b = s.b) && decide (c.n = s.n) && decide (c.m = s.m) && decide ((c.g.length : Int) = (s.l : Int))
theorem len_nil (c : Clue) : ((c.g.length : Int) = ((0 : Nat) : Int)) = (c.g = []) := by simp
section
variable {w s : Int} {c : Clue}
theorem clueB_1 (h : c.k = 1) (q cap) : usedB c ⟨within c.a 0 (w - 1) && within c.n 0 (s - 1), c.a, 0, c.n, 0, q, 0, cap⟩ = clueB w s c := by
  simp [usedB, clueB, len_nil, h, Bool.and_assoc]
theorem clueB_2 (h : c.k = 2) (q cap) : usedB c ⟨((within c.a 0 (w - 1) && within c.b 0 (w - 1)) && decide (c.a ≤ c.b)) && within c.n 0 100, c.a, c.b, c.n, 0, q, 0, cap⟩ = clueB w s c := by
  simp [usedB, clueB, len_nil, h, Bool.and_assoc]
theorem clueB_3 (h : c.k = 3) (q cap) : usedB c ⟨(within c.a 0 (w - 1) && within c.b 0 (w - 1)) && decide (c.a ≠ c.b), c.a, c.b, 0, 0, q, 0, cap⟩ = clueB w s c := by
  simp [usedB, clueB, len_nil, h, Bool.and_assoc]
theorem clueB_4 (h : c.k = 4) (q cap) : usedB c ⟨(within c.a 0 (w - 1) && within c.b 0 (w - 1)) && decide (c.a ≠ c.b), c.a, c.b, 0, 0, q, 0, cap⟩ = clueB w s c := by
  simp [usedB, clueB, len_nil, h, Bool.and_assoc]
theorem clueB_5 (h : c.k = 5) (q cap) : usedB c ⟨within c.n 0 (s - 1) && within c.m 0 w, 0, 0, c.n, c.m, q, 0, cap⟩ = clueB w s c := by
  simp [usedB, clueB, len_nil, h, Bool.and_assoc]
theorem clueB_6 (h : c.k = 6) (q cap) : usedB c ⟨(within c.n 0 w && within c.m 0 w) && codeB w s c.g, 0, 0, c.n, c.m, q, c.g.length, cap⟩ = clueB w s c := by
  simp [usedB, clueB, len_nil, h, Bool.and_assoc]
theorem clueB_7 (h : c.k = 7) (q cap) : usedB c ⟨(within c.a 0 (w - 1) && within c.n 2 10) && within c.m 0 (c.n - 1), c.a, 0, c.n, c.m, q, 0, cap⟩ = clueB w s c := by
  simp [usedB, clueB, len_nil, h, Bool.and_assoc]
theorem clueB_no (h1 : ¬c.k = 1) (h2 : ¬c.k = 2) (h3 : ¬c.k = 3) (h4 : ¬c.k = 4) (h5 : ¬c.k = 5) (h6 : ¬c.k = 6) (h7 : ¬c.k = 7) (a b n m q l cap) : usedB c ⟨false, a, b, n, m, q, l, cap⟩ = clueB w s c := by
  simp [usedB, clueB, h1, h2, h3, h4, h5, h6, h7]
end
def clueR (c : Clue) (a b n m : Int) (g : List Int) : Clue := ⟨c.k, a, b, n, m, g, c.nt⟩
theorem SlI.nil (u : World) : SlI u (.slice none 0 0) [] := ⟨by decide, none, 0, rfl, by decide, Or.inl rfl⟩
/-- What the reference's cases leave. -/
def RU (u : World) (w s : Int) (c : Clue) (x : Used) : Prop := ∃ g, SlI u (.slice x.q x.l x.cap) g ∧ (x.is && decide (c = clueR c x.a x.b x.n x.m g)) = clueB w s c
section
variable {w s : Int} {c : Clue} {u : World}
theorem clueR_1 (h : c.k = 1) : RU u w s c ⟨within c.a 0 (w - 1) && within c.n 0 (s - 1), c.a, 0, c.n, 0, none, 0, 0⟩ :=
  ⟨[], SlI.nil u, by cases c; simp at h; subst h; simp [clueR, clueB, Bool.and_assoc]⟩
theorem clueR_2 (h : c.k = 2) : RU u w s c ⟨((within c.a 0 (w - 1) && within c.b 0 (w - 1)) && decide (c.a ≤ c.b)) && within c.n 0 100, c.a, c.b, c.n, 0, none, 0, 0⟩ :=
  ⟨[], SlI.nil u, by cases c; simp at h; subst h; simp [clueR, clueB, Bool.and_assoc]⟩
theorem clueR_3 (h : c.k = 3) : RU u w s c ⟨(within c.a 0 (w - 1) && within c.b 0 (w - 1)) && decide (c.a ≠ c.b), c.a, c.b, 0, 0, none, 0, 0⟩ :=
  ⟨[], SlI.nil u, by cases c; simp at h; subst h; simp [clueR, clueB, Bool.and_assoc]⟩
theorem clueR_4 (h : c.k = 4) : RU u w s c ⟨(within c.a 0 (w - 1) && within c.b 0 (w - 1)) && decide (c.a ≠ c.b), c.a, c.b, 0, 0, none, 0, 0⟩ :=
  ⟨[], SlI.nil u, by cases c; simp at h; subst h; simp [clueR, clueB, Bool.and_assoc]⟩
theorem clueR_5 (h : c.k = 5) : RU u w s c ⟨within c.n 0 (s - 1) && within c.m 0 w, 0, 0, c.n, c.m, none, 0, 0⟩ :=
  ⟨[], SlI.nil u, by cases c; simp at h; subst h; simp [clueR, clueB, Bool.and_assoc]⟩
theorem clueR_6 (h : c.k = 6) {p : Option Addr} {cap : Nat} (h1 : SlI u (.slice p c.g.length cap) c.g) : RU u w s c ⟨(codeB w s c.g && within c.n 0 w) && within c.m 0 w, 0, 0, c.n, c.m, p, c.g.length, cap⟩ :=
  ⟨c.g, h1, by cases c; simp at h; subst h; simp [clueR, clueB, Bool.and_assoc]; grind⟩
theorem clueR_7 (h : c.k = 7) : RU u w s c ⟨(within c.a 0 (w - 1) && within c.n 2 10) && within c.m 0 (c.n - 1), c.a, 0, c.n, c.m, none, 0, 0⟩ :=
  ⟨[], SlI.nil u, by cases c; simp at h; subst h; simp [clueR, clueB, Bool.and_assoc]⟩
theorem clueR_no (h1 : ¬c.k = 1) (h2 : ¬c.k = 2) (h3 : ¬c.k = 3) (h4 : ¬c.k = 4) (h5 : ¬c.k = 5) (h6 : ¬c.k = 6) (h7 : ¬c.k = 7) : RU u w s c ⟨false, 0, 0, 0, 0, none, 0, 0⟩ :=
  ⟨[], SlI.nil u, by simp [clueB, h1, h2, h3, h4, h5, h6, h7]⟩
end
/-- A clue holds, without regard to Not. -/
def plainT (c : Clue) (xs : List Int) : Bool :=
  if c.k = 1 then decide (nth xs c.a = c.n)
  else if c.k = 2 then decide (lsum (part xs c.a c.b) = c.n)
  else if c.k = 3 then decide (nth xs c.a < nth xs c.b)
  else if c.k = 4 then decide (nth xs c.a = nth xs c.b)
  else if c.k = 5 then decide (cnt xs c.n = c.m)
  else if c.k = 6 then decide (rightN xs c.g = c.n) && decide (commonN xs c.g 10 - rightN xs c.g = c.m)
  else decide (nth xs c.a % c.n = c.m)
def holdsT (c : Clue) (xs : List Int) : Bool := plainT c xs != c.nt
/-- The first clue that does not hold. -/
def failsT (cs : List Clue) (xs : List Int) : Int := idxF (fun c => !holdsT c xs) cs

/-- The errors of clues. -/
def cluesE (w s : Int) (cs : List Clue) : Int := if lockB w s then if 20 < (cs.length : Int) then 2 else if cs.all (clueB w s) then 0 else 11 else 10
def clueE (w s : Int) (c : Clue) : Int := if lockB w s then if clueB w s c then 0 else 11 else 10

/-- The error of two codes. -/
def ansE (w s : Int) (xs ys : List Int) : Int := if codeE w s xs = 0 then codeE w s ys else codeE w s xs
/-- The error of clues and a code. -/
def fitsE (w s : Int) (cs : List Clue) (xs : List Int) : Int := if cluesE w s cs = 0 then codeE w s xs else cluesE w s cs
def holdsE (w s : Int) (c : Clue) (xs : List Int) : Int := if clueE w s c = 0 then codeE w s xs else clueE w s c
/-- What the walk of a clue on a code needs to know. -/
structure Use (w s : Int) (c : Clue) (xs : List Int) : Prop where
  lk : lockB w s = true
  cl : clueB w s c = true
  cd : codeB w s xs = true

theorem code_ten {w s : Int} {xs : List Int} (hL : lockB w s = true) (h : codeB w s xs = true) : xs.length ≤ 4 ∧ ∀ x ∈ xs, 0 ≤ x ∧ x < 10 := by
  have h1 := lock_of hL
  obtain ⟨h2, h3⟩ := code_of h
  exact ⟨by omega, fun x hx => by have := h3 x hx; omega⟩

section
variable {w s : Int} {c : Clue} {xs : List Int}
theorem Use.len (h : Use w s c xs) : (xs.length : Int) = w ∧ 1 ≤ xs.length ∧ xs.length ≤ 4 := by
  have h1 := lock_of h.lk
  have h2 := (code_of h.cd).1
  omega
theorem Use.nth (h : Use w s c xs) {i : Int} (h0 : 0 ≤ i) (h1 : i < xs.length) : 0 ≤ nth xs i ∧ nth xs i < 10 := (code_ten h.lk h.cd).2 _ (nth_mem h0 h1)
theorem Use.facts (h : Use w s c xs) : (c.k = 1 → 0 ≤ c.a ∧ c.a < xs.length) ∧ (c.k = 2 → 0 ≤ c.a ∧ c.a ≤ c.b ∧ c.b < xs.length) ∧
    (c.k = 3 ∨ c.k = 4 → 0 ≤ c.a ∧ c.a < xs.length ∧ 0 ≤ c.b ∧ c.b < xs.length) ∧ (c.k = 7 → 0 ≤ c.a ∧ c.a < xs.length ∧ 2 ≤ c.n ∧ c.n ≤ 10) ∧ 1 ≤ c.k ∧ c.k ≤ 7 ∧ (c.k = 7 → 0 ≤ Go.Proofs.Ytldagbcceefcdaa.nth xs c.a) := by
  have h1 := h.len.1
  have h2 := h.cl
  have h3 : c.k = 7 → 0 ≤ c.a ∧ c.a < xs.length ∧ 2 ≤ c.n ∧ c.n ≤ 10 := by
    intro hk; simp [clueB, hk, within] at h2; omega
  refine ⟨?_, ?_, ?_, h3, ?_, ?_, fun hk => (h.nth (h3 hk).1 (h3 hk).2.1).1⟩
  · intro hk; simp [clueB, hk, within] at h2; omega
  · intro hk; simp [clueB, hk, within] at h2; omega
  · rintro (hk | hk) <;> (simp [clueB, hk, within] at h2; omega)
  · unfold clueB at h2; repeat' split at h2
    all_goals first | omega | simp at h2
  · unfold clueB at h2; repeat' split at h2
    all_goals first | omega | simp at h2
theorem Use.guess (h : Use w s c xs) (h6 : c.k = 6) : xs.length = c.g.length ∧ codeB w s c.g = true := by
  have h2 := h.cl
  simp [clueB, h6] at h2
  have h3 := (code_of h2.1.2).1
  have h1 := h.len.1
  exact ⟨by omega, h2.1.2⟩
theorem Use.psum (h : Use w s c xs) (i : Nat) : 0 ≤ lsum ((part xs c.a c.b).take i) ∧ lsum ((part xs c.a c.b).take i) ≤ 40 := by
  have h1 := lsum_bd ((part xs c.a c.b).take i) (fun x hx => (code_ten h.lk h.cd).2 x (List.mem_of_mem_drop (List.mem_of_mem_take (List.mem_of_mem_take hx))))
  have h2 := h.len
  have h3 : ((part xs c.a c.b).take i).length ≤ 4 := by simp [part]; omega
  omega
end
theorem lsum_all (xs : List Int) {i : Int} (h : xs.length ≤ i) : lsum (xs.take i.toNat) = lsum xs := by rw [take_all xs h]
theorem part_len {xs : List Int} {a b : Int} (h0 : 0 ≤ a) (h1 : a ≤ b) (h2 : b < xs.length) : ((part xs a b).length : Int) = b + 1 - a := by
  simp [part]; omega
theorem part_nth {xs : List Int} {a b : Int} (h0 : 0 ≤ a) {i : Int} (h1 : a ≤ i) (h2 : i ≤ b) (h3 : b < xs.length) : nth (part xs a b) (i - a) = nth xs i := by
  have e : a.toNat + (i - a).toNat = i.toNat := by omega
  have e2 : (i - a).toNat < (b + 1).toNat - a.toNat := by omega
  simp [nth, part, List.getD, List.getElem?_take, List.getElem?_drop, e2, e]

theorem cluesE_bad {w s : Int} {cs : List Clue} (hL : lockB w s = true) (h20 : ¬ 20 < (cs.length : Int)) {i : Int} (h0 : 0 ≤ i) (h1 : i < cs.length) (hb : clueB w s (nth cs i) = false) : cluesE w s cs = 11 := by
  have h3 : cs.all (clueB w s) = false := by
    rw [List.all_eq_false]
    exact ⟨_, nth_mem h0 h1, by simp [hb]⟩
  simp only [cluesE, hL, h20, h3, if_true, if_false, Bool.false_eq_true]
theorem cluesE_all {w s : Int} {cs : List Clue} (hL : lockB w s = true) (h20 : ¬ 20 < (cs.length : Int)) (h : ∀ j : Int, 0 ≤ j → j < cs.length → clueB w s (nth cs j) = true) : cluesE w s cs = 0 := by
  have h3 : cs.all (clueB w s) = true := by
    rw [List.all_eq_true]
    intro x hx
    obtain ⟨i, h0, h1, rfl⟩ := mem_nth hx
    exact h i h0 h1
  simp only [cluesE, hL, h20, h3, if_true, if_false]

/-- The error of some codes. -/
def codesE (w s : Int) (xss : List (List Int)) : Int := if lockB w s then if xss.all (codeB w s) then 0 else 12 else 10
theorem ansE_codes {w s : Int} {xs ys : List Int} : ansE w s xs ys = codesE w s [xs, ys] := by
  by_cases h0 : lockB w s = true <;> by_cases h : codeB w s xs = true <;> by_cases h2 : codeB w s ys = true <;> simp [ansE, codesE, codeE, h0, h, h2]
theorem codesE_two {w s : Int} {xs ys : List Int} (h : codesE w s [xs, ys] = 0) : lockB w s = true ∧ codeB w s xs = true ∧ codeB w s ys = true := by
  unfold codesE at h
  cases h1 : lockB w s <;> cases h2 : codeB w s xs <;> cases h3 : codeB w s ys <;> simp_all
theorem codeE_lock {w s : Int} {xs : List Int} (h : codeE w s xs = 0) : lockB w s = true := by
  unfold codeE at h; cases h1 : lockB w s <;> simp_all
theorem codeE_code {w s : Int} {xs : List Int} (h : codeE w s xs = 0) : codeB w s xs = true := by
  unfold codeE at h; cases h1 : lockB w s <;> cases h2 : codeB w s xs <;> simp_all
theorem codeE_of {w s : Int} {xs : List Int} (hL : lockB w s = true) (h : codeB w s xs = true) : codeE w s xs = 0 := by simp [codeE, hL, h]
theorem cluesE_lock {w s : Int} {cs : List Clue} (h : cluesE w s cs = 0) : lockB w s = true := by
  unfold cluesE at h; cases h1 : lockB w s <;> simp_all
theorem clueE_lock {w s : Int} {c : Clue} (h : clueE w s c = 0) : lockB w s = true := by
  unfold clueE at h; cases h1 : lockB w s <;> simp_all
theorem cluesE_len {w s : Int} {cs : List Clue} (h : cluesE w s cs = 0) : cs.length ≤ 20 := by
  unfold cluesE at h; repeat' split at h
  all_goals first | omega | simp at h
theorem cluesE_clue {w s : Int} {cs : List Clue} (h : cluesE w s cs = 0) : ∀ c ∈ cs, clueB w s c = true := by
  have : cs.all (clueB w s) = true := by
    unfold cluesE at h; repeat' split at h
    all_goals first | assumption | simp at h
  exact List.all_eq_true.1 this
theorem use_all {w s : Int} {cs : List Clue} {xs : List Int} (h : cluesE w s cs = 0) (h2 : codeE w s xs = 0) : ∀ c ∈ cs, Use w s c xs :=
  fun c hc => ⟨cluesE_lock h, cluesE_clue h c hc, codeE_code h2⟩
theorem use_one {w s : Int} {c : Clue} {xs : List Int} (h : clueE w s c = 0) (h2 : codeE w s xs = 0) : Use w s c xs :=
  ⟨clueE_lock h, by unfold clueE at h; cases h1 : lockB w s <;> cases h3 : clueB w s c <;> simp_all, codeE_code h2⟩

def clCells (c : Clue) (g : Value) : List Value := [.int .i64 c.k, .int .i64 c.a, .int .i64 c.b, .int .i64 c.n, .int .i64 c.m, g, .bool c.nt]
def clFlat (cs : List Clue) (gs : List Value) : List Value := (List.zipWith clCells cs gs).flatten

theorem flat_at {α : Type} (k : Nat) : ∀ (L : List (List α)), (∀ x ∈ L, x.length = k) → ∀ i j, j < k → L.flatten[i * k + j]? = (L[i]?).bind fun x => x[j]?
  | [], _, i, j, _ => by simp
  | x :: L, h, 0, j, hj => by
    have hx := h x (by simp)
    simp only [List.flatten_cons, Nat.zero_mul, Nat.zero_add]
    rw [List.getElem?_append_left (by omega)]
    simp
  | x :: L, h, i + 1, j, hj => by
    have hx := h x (by simp)
    simp only [List.flatten_cons]
    rw [List.getElem?_append_right (by rw [hx, Nat.succ_mul]; omega)]
    have e : (i + 1) * k + j - x.length = i * k + j := by rw [hx, Nat.succ_mul]; omega
    rw [e, flat_at k L (fun y hy => h y (by simp [hy])) i j hj]
    simp
theorem flat_len {α : Type} (k : Nat) : ∀ (L : List (List α)), (∀ x ∈ L, x.length = k) → L.flatten.length = L.length * k
  | [], _ => by simp
  | x :: L, h => by
    simp only [List.flatten_cons, List.length_append, List.length_cons, flat_len k L (fun y hy => h y (by simp [hy])), h x (by simp), Nat.succ_mul]
    omega
theorem clFlat_at {cs : List Clue} {gs : List Value} (hl : gs.length = cs.length) {i : Int} (h0 : 0 ≤ i) (h1 : i < cs.length) (j : Nat) (hj : j < 7) : (clFlat cs gs)[i.toNat * 7 + j]? = (clCells (nth cs i) (nth gs i))[j]? := by
  have hc : i.toNat < cs.length := by omega
  have hg : i.toNat < gs.length := by omega
  unfold clFlat
  rw [flat_at 7 _ (by intro x hx; obtain ⟨n, hn, rfl⟩ := List.getElem_of_mem hx; simp [clCells]) _ _ hj]
  have e : (List.zipWith clCells cs gs)[i.toNat]? = some (clCells cs[i.toNat] gs[i.toNat]) := by simp [List.getElem?_zipWith, hc, hg]
  rw [e]
  simp [nth, List.getD, hc, hg]

/-- A slice of clues. -/
structure ClS (u : World) (v : Value) (cs : List Clue) (gs : List Value) : Prop where
  sp : SlC u v cs.length 7 (clFlat cs gs)
  len : gs.length = cs.length
  el : ∀ i : Int, 0 ≤ i → i < cs.length → SlI u (nth gs i) (nth cs i).g
theorem ClS.ext {w u : World} {v : Value} {cs : List Clue} {gs : List Value} (h : ClS w v cs gs) (hb : Below w.heap.size w u) : ClS u v cs gs := ⟨h.sp.ext hb, h.len, fun i h0 h1 => (h.el i h0 h1).ext hb⟩
theorem ClS.le {u : World} {v : Value} {cs : List Clue} {gs : List Value} (h : ClS u v cs gs) : cs.length ≤ 9223372036854775807 := h.sp.le

section
variable {P : Program} {ro : Option Nat} {n0 : Nat} {w0 : World} {ds : List Deferred} {ops : Array Oper} {Q : Exit → Act → World → Prop} {L : List SA}
  {rest : List Oper} {l : List Value} {d : Option Tmp} {ty : TypeId} {ps : String} {af : Array Edge} {g : Option (Nat × Bool)} {C : World → Prop}
theorem ClS.st {u : World} {v : Value} {cs : List Clue} {gs : List Value} (h : ClS w0 v cs gs) (hu : St w0.heap.size w0 L u) : ClS u v cs gs := h.ext hu.below
theorem det_idxCl {T e : TypeId} {by_ : Nat} {x y : Operand} {v : Value} {i : Int} {w : World} {cs : List Clue} {gs : List Value} (hT : sl P T = some (e, 7, by_)) (hx : evo l x = some v) (hy : evo l y = some (.int .i64 i))
    (hs : ClS w v cs gs) (h0 : 0 ≤ i) (h1 : i < cs.length) : Det P C ⟨d, .indexAddr T x y, ty, ps, af, g⟩ l (.pointer (some (sla v (i.toNat * 7)))) :=
  det_indexS hT hx hy hs.sp h0 h1
theorem det_ldCl {T : TypeId} {x : Operand} {v : Value} {cs : List Clue} {gs : List Value} {i : Int} (hx : evo l x = some (.pointer (some (sla v (i.toNat * 7))))) (hs : ClS w0 v cs gs) (h : 0 ≤ i ∧ i < cs.length) (hT : tk P T = some (true, 7)) :
    Det P (St w0.heap.size w0 L) ⟨d, .load T x, ty, ps, af, g⟩ l (.agg #[.int .i64 (nth cs i).k, .int .i64 (nth cs i).a, .int .i64 (nth cs i).b, .int .i64 (nth cs i).n, .int .i64 (nth cs i).m, nth gs i, .bool (nth cs i).nt]) :=
  det_loadSN (cs := clCells (nth cs i) (nth gs i)) hx (fun _ hu => hs.sp.ext hu.below) (fun j y hy => by
    have hj : j < 7 := by have := (List.getElem?_eq_some_iff.1 hy).1; simpa [clCells] using this
    rw [clFlat_at hs.len h.1 h.2 j hj]; exact hy) hT
end

end Go.Proofs.Ytldagbcceefcdaa

/- part All -/
/- All codes, in order. No program in sight. -/
namespace Go.Proofs.Ytldagbcceefcdaa
set_option linter.unusedVariables false
set_option linter.unusedSimpArgs false
open Go.RowKit

/-- The last k digits of n to the base s. -/
def digs : Nat → Int → Int → List Int
  | 0, _, _ => []
  | k + 1, s, n => digs k s (n / s) ++ [n % s]
/-- How many codes. -/
def manyC (w s : Int) : Nat := s.toNat ^ w.toNat
def codeAt (w s : Int) (n : Nat) : List Int := digs w.toNat s n
def allC (w s : Int) : List (List Int) := (List.range (manyC w s)).map (codeAt w s)
/-- The readings of clues. -/
def readL (w s : Int) (cs : List Clue) : List (List Int) := (allC w s).filter fun xs => decide (failsT cs xs < 0)

theorem digs_len : ∀ (k : Nat) (s n : Int), (digs k s n).length = k
  | 0, _, _ => rfl
  | k + 1, s, n => by simp [digs, digs_len k]
theorem digs_zero : ∀ (k : Nat) (s : Int), digs k s 0 = List.replicate k 0
  | 0, _ => rfl
  | k + 1, s => by simp [digs, digs_zero k, List.replicate_succ']
theorem digs_mem : ∀ (k : Nat) (s n : Int), 0 < s → ∀ x ∈ digs k s n, 0 ≤ x ∧ x ≤ s - 1
  | 0, _, _, _ => by simp [digs]
  | k + 1, s, n, h => by
    intro x hx
    simp only [digs, List.mem_append, List.mem_singleton] at hx
    rcases hx with hx | rfl
    · exact digs_mem k s _ h x hx
    · have := Int.emod_nonneg n (show s ≠ 0 by omega)
      have := Int.emod_lt_of_pos n h
      omega
theorem codeAt_code {w s : Int} (hL : lockB w s = true) (n : Nat) : codeB w s (codeAt w s n) = true := by
  have h1 := lock_of hL
  simp only [codeB, within, codeAt, digs_len, Bool.and_eq_true, decide_eq_true_eq, List.all_eq_true]
  exact ⟨by omega, fun x hx => digs_mem _ s n (by omega) x hx⟩
theorem allC_len (w s : Int) : (allC w s).length = manyC w s := by simp [allC]
theorem allC_at {w s : Int} {n : Nat} (h : n < manyC w s) : (allC w s)[n]? = some (codeAt w s n) := by simp [allC, h]
theorem allC_split {w s : Int} {n : Nat} (h : n < manyC w s) : allC w s = (allC w s).take n ++ codeAt w s n :: (allC w s).drop (n + 1) := by
  have h1 := allC_at h
  obtain ⟨h2, h3⟩ := List.getElem?_eq_some_iff.1 h1
  conv => lhs; rw [← List.take_append_drop n (allC w s), List.drop_eq_getElem_cons h2, h3]
theorem allC_take {w s : Int} {n : Nat} (h : n < manyC w s) : (allC w s).take (n + 1) = (allC w s).take n ++ [codeAt w s n] := by
  obtain ⟨h2, h3⟩ := List.getElem?_eq_some_iff.1 (allC_at h)
  rw [List.take_succ_eq_append_getElem h2, h3]
theorem allC_mem {w s : Int} (hL : lockB w s = true) {xs : List Int} (h : xs ∈ allC w s) : codeB w s xs = true := by
  simp only [allC, List.mem_map, List.mem_range] at h
  obtain ⟨n, _, rfl⟩ := h
  exact codeAt_code hL n
theorem manyC_pos {w s : Int} (hL : lockB w s = true) : 0 < manyC w s := Nat.pow_pos (by have := lock_of hL; omega)
theorem manyC_le {w s : Int} (hL : lockB w s = true) : manyC w s ≤ 10000 := by
  have h1 := lock_of hL
  calc s.toNat ^ w.toNat ≤ 10 ^ w.toNat := Nat.pow_le_pow_left (by omega) _
    _ ≤ 10 ^ 4 := Nat.pow_le_pow_right (by omega) (by omega)

section
variable {w s : Int} {cs : List Clue} {pre post : List (List Int)} {x : List Int}
def fitB (cs : List Clue) (xs : List Int) : Bool := decide (failsT cs xs < 0)
theorem readL_split (hall : allC w s = pre ++ x :: post) (h : fitB cs x = true) : readL w s cs = pre.filter (fitB cs) ++ x :: post.filter (fitB cs) := by
  show (allC w s).filter (fitB cs) = _
  rw [hall]; simp [List.filter_append, List.filter_cons, h]
theorem fit_yes (h : fitB cs x = true) : (pre ++ [x]).filter (fitB cs) = pre.filter (fitB cs) ++ [x] := by simp [List.filter_append, List.filter_cons, h]
theorem fit_no (h : fitB cs x = false) : (pre ++ [x]).filter (fitB cs) = pre.filter (fitB cs) := by simp [List.filter_append, List.filter_cons, h]
theorem readL_le (hL : lockB w s = true) (cs : List Clue) : (readL w s cs).length ≤ 10000 := by
  have h1 := List.length_filter_le (fitB cs) (allC w s)
  have h2 := manyC_le hL
  rw [allC_len] at h1
  exact Nat.le_trans h1 h2
theorem readL_mem (hL : lockB w s = true) {xs : List Int} (h : xs ∈ readL w s cs) : codeB w s xs = true ∧ failsT cs xs < 0 := by
  simp only [readL, List.mem_filter, decide_eq_true_eq] at h
  exact ⟨allC_mem hL h.1, h.2⟩
end

theorem nth_mid {α : Type} [Inhabited α] {a b : List α} {x : α} {i : Int} (h : a.length = i.toNat) : nth (a ++ x :: b) i = x := by
  simp [nth, List.getD, ← h]
theorem set_mid {α : Type} {a b : List α} {x y : α} {i : Nat} (h : a.length = i) : (a ++ x :: b).set i y = a ++ y :: b := by
  subst h
  simp [List.set_append]

/-- On the way from code n to the next one: the places behind i are set back. -/
structure Odo (k : Nat) (s n i m : Int) (xs : List Int) : Prop where
  lo : -1 ≤ i
  hi : i < k
  pos : 0 ≤ m
  xs_ : xs = digs (i + 1).toNat s m ++ List.replicate (k - (i + 1).toNat) 0
  nx : digs k s (n + 1) = digs (i + 1).toNat s (m + 1) ++ List.replicate (k - (i + 1).toNat) 0
  num : n + 1 = (m + 1) * s ^ (k - (i + 1).toNat)
section
variable {k : Nat} {s n i m : Int} {xs : List Int}
theorem Odo.start (hn : 0 ≤ n) : Odo k s n ((k : Int) - 1) n (digs k s n) := by
  have e : ((k : Int) - 1 + 1).toNat = k := by omega
  exact ⟨by omega, by omega, hn, by simp [e], by simp [e], by simp [e]⟩
theorem Odo.len (h : Odo k s n i m xs) : xs.length = k := by
  have := h.hi
  have := h.lo
  rw [h.xs_]; simp [digs_len]; omega
theorem Odo.at (h : Odo k s n i m xs) (h0 : 0 ≤ i) : xs = digs i.toNat s (m / s) ++ (m % s) :: List.replicate (k - (i + 1).toNat) 0 := by
  have e : (i + 1).toNat = i.toNat + 1 := by omega
  have := h.xs_
  rw [e] at this ⊢
  simpa [digs] using this
theorem Odo.nth (h : Odo k s n i m xs) (h0 : 0 ≤ i) : nth xs i = m % s := by
  rw [h.at h0, nth_mid (digs_len _ _ _)]
theorem Odo.back (h : Odo k s n i m xs) (h0 : 0 ≤ i) (hs : 2 ≤ s) (hd : Go.Proofs.Ytldagbcceefcdaa.nth xs i = s - 1) : Odo k s n (i - 1) (m / s) (xs.set i.toNat 0) := by
  rw [h.nth h0] at hd
  have e : (i + 1).toNat = i.toNat + 1 := by omega
  have e2 : (i - 1 + 1).toNat = i.toNat := by omega
  have e3 : k - i.toNat = (k - (i.toNat + 1)) + 1 := by have := h.hi; omega
  have e4 : m + 1 = (m / s + 1) * s := by
    have := Int.mul_ediv_add_emod m s
    rw [Int.add_mul, Int.mul_comm (m / s) s]
    omega
  refine ⟨by omega, by have := h.hi; omega, Int.ediv_nonneg h.pos (by omega), ?_, ?_, ?_⟩
  · rw [h.at h0, set_mid (digs_len _ _ _), e2, e3, e, List.replicate_succ]
  · rw [h.nx, e, digs, e2, e3, List.replicate_succ]
    have h1 : (m + 1) / s = m / s + 1 := by rw [e4, Int.mul_ediv_cancel _ (by omega)]
    have h2 : (m + 1) % s = 0 := by rw [e4]; simp
    rw [h1, h2]; simp
  · rw [h.num, e, e2, e3, Int.pow_succ, e4, Int.mul_assoc, Int.mul_comm s]
theorem Odo.next (h : Odo k s n i m xs) (h0 : 0 ≤ i) (hs : 2 ≤ s) (hd : ¬ Go.Proofs.Ytldagbcceefcdaa.nth xs i = s - 1) : xs.set i.toNat (Go.Proofs.Ytldagbcceefcdaa.nth xs i + 1) = digs k s (n + 1) := by
  have hd' := hd
  rw [h.nth h0] at hd'
  have e : (i + 1).toNat = i.toNat + 1 := by omega
  rw [h.nth h0]
  conv => lhs; rw [h.at h0]
  rw [set_mid (digs_len _ _ _), h.nx, e, digs]
  have h1 := Int.mul_ediv_add_emod m s
  have h2 := Int.emod_nonneg m (show s ≠ 0 by omega)
  have h3 := Int.emod_lt_of_pos m (show 0 < s by omega)
  have h5 : (m + 1) / s = m / s ∧ (m + 1) % s = m % s + 1 := by
    rw [Int.ediv_emod_unique (by omega)]
    omega
  rw [h5.1, h5.2]
  simp
theorem Odo.start' {w : Int} (hk : (k : Int) = w) (hn : 0 ≤ n) : Odo k s n (w - 1) n (digs k s n) := by
  subst hk; exact Odo.start hn
theorem Odo.bd (h : Odo k s n i m xs) (h0 : 0 ≤ i) (hs : 2 ≤ s) : 0 ≤ Go.Proofs.Ytldagbcceefcdaa.nth xs i ∧ Go.Proofs.Ytldagbcceefcdaa.nth xs i < s := by
  rw [h.nth h0]
  exact ⟨Int.emod_nonneg m (by omega), Int.emod_lt_of_pos m (by omega)⟩
theorem Odo.more (h : Odo k s n i m xs) (h0 : 0 ≤ i) (hs : 2 ≤ s) (hd : ¬ Go.Proofs.Ytldagbcceefcdaa.nth xs i = s - 1) (hn : n < s ^ k) : n + 1 < s ^ k := by
  rcases Int.lt_or_eq_of_le (show n + 1 ≤ s ^ k by omega) with h1 | h1
  · exact h1
  · exfalso
    rw [h.nth h0] at hd
    have e : k = (i.toNat + 1) + (k - (i + 1).toNat) := by have := h.hi; omega
    have h2 := h.num
    rw [h1] at h2
    have h3 : s ^ k = s ^ (i.toNat + 1) * s ^ (k - (i + 1).toNat) := by rw [← Int.pow_add]; exact congrArg _ e
    rw [h3] at h2
    have hp : s ^ (k - (i + 1).toNat) ≠ 0 := by have := Int.pow_pos (n := s) (m := k - (i + 1).toNat) (by omega); omega
    have h4 := Int.eq_of_mul_eq_mul_right hp h2
    rw [Int.pow_succ] at h4
    have h5 : (m + 1) % s = 0 := by rw [← h4]; simp
    have h6 := Int.mul_ediv_add_emod m s
    have h7 := Int.mul_ediv_add_emod (m + 1) s
    have h8 := Int.emod_nonneg m (show s ≠ 0 by omega)
    have h9 := Int.emod_lt_of_pos m (show 0 < s by omega)
    have h10 : (m + 1) / s = m / s ∧ (m + 1) % s = m % s + 1 := by
      rw [Int.ediv_emod_unique (by omega)]
      omega
    omega
theorem manyC_pow {w s : Int} (h : 2 ≤ s) : ((manyC w s : Nat) : Int) = s ^ w.toNat := by
  unfold manyC
  rw [Int.natCast_pow]
  congr 1
  omega
theorem codeAt_zero (w s : Int) : codeAt w s 0 = List.replicate w.toNat 0 := digs_zero _ _
theorem allC_all {w s : Int} {n : Nat} (h : n = manyC w s) : (allC w s).take n = allC w s := List.take_of_length_le (by rw [allC_len]; omega)
theorem Odo.end_ (h : Odo k s n i m xs) (hi : i < 0) (hs : 2 ≤ s) (hn : n < s ^ k) : n + 1 = s ^ k := by
  have e : i = -1 := by have := h.lo; omega
  have h1 := h.num
  have h2 := h.pos
  subst e
  simp at h1
  have h3 : (0 : Int) ≤ m * s ^ k := Int.mul_nonneg h2 (Int.pow_nonneg (by omega))
  rw [Int.add_mul] at h1
  omega
end

end Go.Proofs.Ytldagbcceefcdaa

/- part Answers -/
/- Plain laws on answers: who is right, what is common. No program in sight. -/
namespace Go.Proofs.Ytldagbcceefcdaa
set_option linter.unusedVariables false
set_option linter.unusedSimpArgs false
open Go.RowKit

def sumC (f : Int → Int) : Nat → Int
  | 0 => 0
  | n + 1 => sumC f n + f n
theorem sumC_le {f g : Int → Int} (h : ∀ s, f s ≤ g s) : ∀ n, sumC f n ≤ sumC g n
  | 0 => by simp [sumC]
  | n + 1 => by have := sumC_le h n; have := h n; simp only [sumC]; omega
theorem sumC_add (f g : Int → Int) : ∀ n, sumC (fun s => f s + g s) n = sumC f n + sumC g n
  | 0 => by simp [sumC]
  | n + 1 => by have := sumC_add f g n; simp only [sumC]; omega
theorem sumC_one (x : Int) : ∀ n : Nat, sumC (fun s => if x = s then 1 else 0) n = if 0 ≤ x ∧ x < n then 1 else 0
  | 0 => by simp only [sumC]; rw [if_neg (by omega)]
  | n + 1 => by
    have := sumC_one x n
    simp only [sumC, this]
    by_cases h1 : x = n
    · rw [if_neg (by omega), if_pos h1, if_pos (by omega)]; rfl
    · rw [if_neg h1]
      by_cases h2 : 0 ≤ x ∧ x < n
      · rw [if_pos h2, if_pos (by omega)]; rfl
      · rw [if_neg h2, if_neg (by omega)]; rfl
theorem sumC_zero : ∀ n, sumC (fun _ => 0) n = 0
  | 0 => rfl
  | n + 1 => by simp [sumC, sumC_zero n]
theorem common_sum (xs ys : List Int) : ∀ n, commonN xs ys n = sumC (fun s => min (cnt xs s) (cnt ys s)) n
  | 0 => rfl
  | n + 1 => by simp only [commonN, sumC, common_sum xs ys n]
theorem cnt_cons (x : Int) (xs : List Int) (s : Int) : cnt (x :: xs) s = (if x = s then 1 else 0) + cnt xs s := by
  unfold cnt
  by_cases h : x = s <;> simp [List.filter_cons, h] <;> omega
theorem sum_cnt : ∀ (xs : List Int), (∀ x ∈ xs, 0 ≤ x ∧ x < 10) → sumC (cnt xs) 10 = xs.length
  | [], _ => by rw [show cnt [] = fun _ => 0 from rfl, sumC_zero]; rfl
  | x :: xs, h => by
    have h1 := sum_cnt xs fun y hy => h y (by simp [hy])
    have h2 := h x (by simp)
    have e : cnt (x :: xs) = fun s => (if x = s then 1 else 0) + cnt xs s := by funext s; exact cnt_cons x xs s
    rw [e, sumC_add, sumC_one, h1, if_pos (by omega)]
    simp only [List.length_cons]; omega
/-- The places that hold s in both. -/
def both : List Int → List Int → Int → Int
  | x :: xs, y :: ys, s => (if x = s ∧ y = s then 1 else 0) + both xs ys s
  | _, _, _ => 0
theorem both_le : ∀ (xs ys : List Int) (s : Int), both xs ys s ≤ min (cnt xs s) (cnt ys s)
  | [], ys, s => by have := cnt_le ys s; simp only [both, cnt_nil]; omega
  | x :: xs, [], s => by have := cnt_le (x :: xs) s; simp only [both, cnt_nil]; omega
  | x :: xs, y :: ys, s => by
    have := both_le xs ys s
    simp only [both, cnt_cons]
    by_cases h1 : x = s <;> by_cases h2 : y = s <;> simp [h1, h2] <;> omega
theorem sum_both : ∀ (xs ys : List Int), (∀ x ∈ xs, 0 ≤ x ∧ x < 10) → sumC (both xs ys) 10 = rightN xs ys
  | [], ys, _ => by rw [show both [] ys = fun _ => 0 from by funext s; simp [both], sumC_zero]; simp [rightN]
  | x :: xs, [], _ => by rw [show both (x :: xs) [] = fun _ => 0 from by funext s; simp [both], sumC_zero]; simp [rightN]
  | x :: xs, y :: ys, h => by
    have h1 := sum_both xs ys fun z hz => h z (by simp [hz])
    have h2 := h x (by simp)
    by_cases hxy : x = y
    · subst hxy
      have e : both (x :: xs) (x :: ys) = fun s => (if x = s then 1 else 0) + both xs ys s := by funext s; simp [both]
      rw [e, sumC_add, sumC_one, h1, if_pos (by omega)]
      simp [rightN]
    · have e : both (x :: xs) (y :: ys) = fun s => both xs ys s := by
        funext s
        simp only [both]
        rw [if_neg (by omega)]; omega
      rw [e, h1]
      simp [rightN, hxy]
theorem right_common {xs ys : List Int} (h : ∀ x ∈ xs, 0 ≤ x ∧ x < 10) : rightN xs ys ≤ commonN xs ys 10 := by
  rw [← sum_both xs ys h, common_sum]
  exact sumC_le (fun s => both_le xs ys s) 10
theorem common_len {xs ys : List Int} (h : ∀ x ∈ xs, 0 ≤ x ∧ x < 10) : commonN xs ys 10 ≤ xs.length := by
  rw [← sum_cnt xs h, common_sum]
  exact sumC_le (fun s => by omega) 10
theorem common_self {xs : List Int} (h : ∀ x ∈ xs, 0 ≤ x ∧ x < 10) : commonN xs xs 10 = xs.length := by
  rw [← sum_cnt xs h, common_sum]
  congr 1
  funext s
  omega
theorem common_comm (xs ys : List Int) (n : Nat) : commonN xs ys n = commonN ys xs n := by
  rw [common_sum, common_sum]
  congr 1
  funext s
  omega
theorem right_comm : ∀ (xs ys : List Int), rightN xs ys = rightN ys xs
  | [], [] => rfl
  | [], _ :: _ => rfl
  | _ :: _, [] => rfl
  | x :: xs, y :: ys => by simp only [rightN, right_comm xs ys, eq_comm]
theorem right_self : ∀ (xs : List Int), rightN xs xs = xs.length
  | [] => rfl
  | x :: xs => by simp [rightN, right_self xs]; omega
theorem right_nonneg : ∀ (xs ys : List Int), 0 ≤ rightN xs ys
  | [], _ => by simp [rightN]
  | _ :: _, [] => by simp [rightN]
  | x :: xs, y :: ys => by have := right_nonneg xs ys; simp only [rightN]; split <;> omega
theorem right_full : ∀ {xs ys : List Int}, xs.length = ys.length → rightN xs ys = xs.length → xs = ys
  | [], [], _, _ => rfl
  | x :: xs, y :: ys, hl, h => by
    have h1 := rightN_le xs ys
    simp only [rightN, List.length_cons] at h
    by_cases hxy : x = y
    · rw [if_pos hxy] at h
      have e := right_full (xs := xs) (ys := ys) (by simpa using hl) (by omega)
      rw [hxy, e]
    · rw [if_neg hxy] at h
      exfalso
      omega
  | [], _ :: _, hl, _ => by simp at hl
  | _ :: _, [], hl, _ => by simp at hl

theorem ansE_0 {w s : Int} {xs ys : List Int} : ansE w s xs ys = 0 ↔ lockB w s = true ∧ codeB w s xs = true ∧ codeB w s ys = true := by
  unfold ansE codeE
  cases lockB w s <;> cases codeB w s xs <;> cases codeB w s ys <;> simp
theorem ansE_comm0 {w s : Int} {xs ys : List Int} : ansE w s xs ys = 0 ↔ ansE w s ys xs = 0 := by
  rw [ansE_0, ansE_0]; grind
theorem ans_self {w s : Int} {xs ys : List Int} (h : ansE w s xs ys = 0) : ansE w s xs xs = 0 ∧ rightN xs xs = w ∧ commonN xs xs 10 - rightN xs xs = 0 := by
  obtain ⟨h1, h2, h3⟩ := ansE_0.1 h
  have h4 := code_ten h1 h2
  have h5 := code_of h2
  refine ⟨ansE_0.2 ⟨h1, h2, h2⟩, ?_, ?_⟩
  · rw [right_self]; exact h5.1
  · rw [right_self, common_self h4.2]; omega
theorem ans_two {w s : Int} {xs ys : List Int} (h : ansE w s xs ys = 0) : rightN xs ys = rightN ys xs ∧ commonN xs ys 10 = commonN ys xs 10 ∧ 0 ≤ rightN xs ys ∧ rightN xs ys ≤ commonN xs ys 10 ∧ commonN xs ys 10 ≤ w ∧ (rightN xs ys = w ↔ xs = ys) := by
  obtain ⟨h1, h2, h3⟩ := ansE_0.1 h
  have h4 := code_ten h1 h2
  have h5 := code_of h2
  have h6 := code_of h3
  refine ⟨right_comm _ _, common_comm _ _ _, right_nonneg _ _, right_common h4.2, ?_, fun h => ?_, fun h => ?_⟩
  · have := common_len (ys := ys) h4.2; omega
  · exact right_full (by omega) (by omega)
  · subst h; rw [right_self]; exact h5.1

end Go.Proofs.Ytldagbcceefcdaa

