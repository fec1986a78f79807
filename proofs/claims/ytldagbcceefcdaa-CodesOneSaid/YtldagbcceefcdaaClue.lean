/- Clues as plain data, and as they lie in memory. No program in sight. -/
import Derived.Test.YtldagbcceefcdaaCodes
import Derived.Test.YtldagbcceefcdaaMore
namespace Go.Proofs.Ytldagbcceefcdaa
set_option linter.unusedVariables false
set_option linter.unusedSimpArgs false
open Go.RowKit

def lsum : List Int → Int
  | [] => 0
  | x :: xs => x + lsum xs
theorem SlI.shape {u : World} {v : Value} {xs : List Int} (h : SlI u v xs) : ∃ p cap, v = .slice p xs.length cap := by
  obtain ⟨_, p, cap, h, _⟩ := h
  exact ⟨p, cap, h⟩
theorem lsum_snoc : ∀ (xs : List Int) (y : Int), lsum (xs ++ [y]) = lsum xs + y
  | [], y => by simp [lsum]
  | x :: xs, y => by simp [lsum, lsum_snoc xs y]; omega
theorem lsum_bd : ∀ (xs : List Int), (∀ x ∈ xs, 0 ≤ x ∧ x < 10) → 0 ≤ lsum xs ∧ lsum xs ≤ 10 * xs.length
  | [], _ => by simp [lsum]
  | x :: xs, h => by
    have h1 := lsum_bd xs fun y hy => h y (by simp [hy])
    have h2 := h x (by simp)
    simp only [lsum, List.length_cons]
    omega
/-- The places from a to b, both included. -/
def part (xs : List Int) (a b : Int) : List Int := (xs.drop a.toNat).take ((b + 1).toNat - a.toNat)

/-- A clue is valid. -/
def clueB (w s : Int) (c : Clue) : Bool :=
  if c.k = 1 then within c.a 0 (w - 1) && within c.n 0 (s - 1) && decide (c.b = 0 ∧ c.m = 0 ∧ c.g = [])
  else if c.k = 2 then within c.a 0 (w - 1) && within c.b 0 (w - 1) && decide (c.a ≤ c.b) && within c.n 0 100 && decide (c.m = 0 ∧ c.g = [])
  else if c.k = 3 ∨ c.k = 4 then within c.a 0 (w - 1) && within c.b 0 (w - 1) && decide (c.a ≠ c.b) && decide (c.n = 0 ∧ c.m = 0 ∧ c.g = [])
  else if c.k = 5 then within c.n 0 (s - 1) && within c.m 0 w && decide (c.a = 0 ∧ c.b = 0 ∧ c.g = [])
  else if c.k = 6 then within c.n 0 w && within c.m 0 w && codeB w s c.g && decide (c.a = 0 ∧ c.b = 0)
  else if c.k = 7 then within c.a 0 (w - 1) && within c.n 2 10 && within c.m 0 (c.n - 1) && decide (c.b = 0 ∧ c.g = [])
  else false
/-- What a clue used, on the way through the cases. -/
structure Used where
  is : Bool
  a : Int
  b : Int
  n : Int
  m : Int
  q : Option Addr
  l : Nat
  cap : Nat
def usedB (c : Clue) (s : Used) : Bool := s.is && decide (c.a = s.a) && decide (c.b = s.b) && decide (c.n = s.n) && decide (c.m = s.m) && decide ((c.g.length : Int) = (s.l : Int))
theorem len_nil (c : Clue) : ((c.g.length : Int) = ((0 : Nat) : Int)) = (c.g = []) := by simp
section
variable {w s : Int} {c : Clue}
theorem clueB_1 (h : c.k = 1) (q cap) : usedB c ⟨within c.a 0 (w - 1) && within c.n 0 (s - 1), c.a, 0, c.n, 0, q, 0, cap⟩ = clueB w s c := by
  simp [usedB, clueB, len_nil, h, Bool.and_assoc]
theorem clueB_2 (h : c.k = 2) (q cap) : usedB c ⟨((within c.a 0 (w - 1) && within c.b 0 (w - 1)) && decide (c.a ≤ c.b)) && within c.n 0 100, c.a, c.b, c.n, 0, q, 0, cap⟩ = clueB w s c := by
  simp [usedB, clueB, len_nil, h, Bool.and_assoc]
theorem clueB_3 (h : c.k = 3) (q cap) : usedB c ⟨(within c.a 0 (w - 1) && within c.b 0 (w - 1)) && decide (c.a ≠ c.b), c.a, c.b, 0, 0, q, 0, cap⟩ = clueB w s c := by
  simp [usedB, clueB, len_nil, h, Bool.and_assoc]
theorem clueB_4 (h : c.k = 4) (q cap) : usedB c ⟨(within c.a 0 (w - 1) && within c.b 0 (w - 1)) && decide (c.a ≠ c.b), c.a, c.b, 0, 0, q, 0, cap⟩ = clueB w s c := by
  simp [usedB, clueB, len_nil, h, Bool.and_assoc]
theorem clueB_5 (h : c.k = 5) (q cap) : usedB c ⟨within c.n 0 (s - 1) && within c.m 0 w, 0, 0, c.n, c.m, q, 0, cap⟩ = clueB w s c := by
  simp [usedB, clueB, len_nil, h, Bool.and_assoc]
theorem clueB_6 (h : c.k = 6) (q cap) : usedB c ⟨(within c.n 0 w && within c.m 0 w) && codeB w s c.g, 0, 0, c.n, c.m, q, c.g.length, cap⟩ = clueB w s c := by
  simp [usedB, clueB, len_nil, h, Bool.and_assoc]
theorem clueB_7 (h : c.k = 7) (q cap) : usedB c ⟨(within c.a 0 (w - 1) && within c.n 2 10) && within c.m 0 (c.n - 1), c.a, 0, c.n, c.m, q, 0, cap⟩ = clueB w s c := by
  simp [usedB, clueB, len_nil, h, Bool.and_assoc]
theorem clueB_no (h1 : ¬c.k = 1) (h2 : ¬c.k = 2) (h3 : ¬c.k = 3) (h4 : ¬c.k = 4) (h5 : ¬c.k = 5) (h6 : ¬c.k = 6) (h7 : ¬c.k = 7) (a b n m q l cap) : usedB c ⟨false, a, b, n, m, q, l, cap⟩ = clueB w s c := by
  simp [usedB, clueB, h1, h2, h3, h4, h5, h6, h7]
end
def clueR (c : Clue) (a b n m : Int) (g : List Int) : Clue := ⟨c.k, a, b, n, m, g, c.nt⟩
theorem SlI.nil (u : World) : SlI u (.slice none 0 0) [] := ⟨by decide, none, 0, rfl, by decide, Or.inl rfl⟩
/-- What the reference's cases leave. -/
def RU (u : World) (w s : Int) (c : Clue) (x : Used) : Prop := ∃ g, SlI u (.slice x.q x.l x.cap) g ∧ (x.is && decide (c = clueR c x.a x.b x.n x.m g)) = clueB w s c
section
variable {w s : Int} {c : Clue} {u : World}
theorem clueR_1 (h : c.k = 1) : RU u w s c ⟨within c.a 0 (w - 1) && within c.n 0 (s - 1), c.a, 0, c.n, 0, none, 0, 0⟩ :=
  ⟨[], SlI.nil u, by cases c; simp at h; subst h; simp [clueR, clueB, Bool.and_assoc]⟩
theorem clueR_2 (h : c.k = 2) : RU u w s c ⟨((within c.a 0 (w - 1) && within c.b 0 (w - 1)) && decide (c.a ≤ c.b)) && within c.n 0 100, c.a, c.b, c.n, 0, none, 0, 0⟩ :=
  ⟨[], SlI.nil u, by cases c; simp at h; subst h; simp [clueR, clueB, Bool.and_assoc]⟩
theorem clueR_3 (h : c.k = 3) : RU u w s c ⟨(within c.a 0 (w - 1) && within c.b 0 (w - 1)) && decide (c.a ≠ c.b), c.a, c.b, 0, 0, none, 0, 0⟩ :=
  ⟨[], SlI.nil u, by cases c; simp at h; subst h; simp [clueR, clueB, Bool.and_assoc]⟩
theorem clueR_4 (h : c.k = 4) : RU u w s c ⟨(within c.a 0 (w - 1) && within c.b 0 (w - 1)) && decide (c.a ≠ c.b), c.a, c.b, 0, 0, none, 0, 0⟩ :=
  ⟨[], SlI.nil u, by cases c; simp at h; subst h; simp [clueR, clueB, Bool.and_assoc]⟩
theorem clueR_5 (h : c.k = 5) : RU u w s c ⟨within c.n 0 (s - 1) && within c.m 0 w, 0, 0, c.n, c.m, none, 0, 0⟩ :=
  ⟨[], SlI.nil u, by cases c; simp at h; subst h; simp [clueR, clueB, Bool.and_assoc]⟩
theorem clueR_6 (h : c.k = 6) {p : Option Addr} {cap : Nat} (h1 : SlI u (.slice p c.g.length cap) c.g) : RU u w s c ⟨(codeB w s c.g && within c.n 0 w) && within c.m 0 w, 0, 0, c.n, c.m, p, c.g.length, cap⟩ :=
  ⟨c.g, h1, by cases c; simp at h; subst h; simp [clueR, clueB, Bool.and_assoc]; grind⟩
theorem clueR_7 (h : c.k = 7) : RU u w s c ⟨(within c.a 0 (w - 1) && within c.n 2 10) && within c.m 0 (c.n - 1), c.a, 0, c.n, c.m, none, 0, 0⟩ :=
  ⟨[], SlI.nil u, by cases c; simp at h; subst h; simp [clueR, clueB, Bool.and_assoc]⟩
theorem clueR_no (h1 : ¬c.k = 1) (h2 : ¬c.k = 2) (h3 : ¬c.k = 3) (h4 : ¬c.k = 4) (h5 : ¬c.k = 5) (h6 : ¬c.k = 6) (h7 : ¬c.k = 7) : RU u w s c ⟨false, 0, 0, 0, 0, none, 0, 0⟩ :=
  ⟨[], SlI.nil u, by simp [clueB, h1, h2, h3, h4, h5, h6, h7]⟩
end
/-- A clue holds, without regard to Not. -/
def plainT (c : Clue) (xs : List Int) : Bool :=
  if c.k = 1 then decide (nth xs c.a = c.n)
  else if c.k = 2 then decide (lsum (part xs c.a c.b) = c.n)
  else if c.k = 3 then decide (nth xs c.a < nth xs c.b)
  else if c.k = 4 then decide (nth xs c.a = nth xs c.b)
  else if c.k = 5 then decide (cnt xs c.n = c.m)
  else if c.k = 6 then decide (rightN xs c.g = c.n) && decide (commonN xs c.g 10 - rightN xs c.g = c.m)
  else decide (nth xs c.a % c.n = c.m)
def holdsT (c : Clue) (xs : List Int) : Bool := plainT c xs != c.nt
/-- The first clue that does not hold. -/
def failsT (cs : List Clue) (xs : List Int) : Int := idxF (fun c => !holdsT c xs) cs

/-- The errors of clues. -/
def cluesE (w s : Int) (cs : List Clue) : Int := if lockB w s then if 20 < (cs.length : Int) then 2 else if cs.all (clueB w s) then 0 else 11 else 10
def clueE (w s : Int) (c : Clue) : Int := if lockB w s then if clueB w s c then 0 else 11 else 10

/-- The error of two codes. -/
def ansE (w s : Int) (xs ys : List Int) : Int := if codeE w s xs = 0 then codeE w s ys else codeE w s xs
/-- The error of clues and a code. -/
def fitsE (w s : Int) (cs : List Clue) (xs : List Int) : Int := if cluesE w s cs = 0 then codeE w s xs else cluesE w s cs
def holdsE (w s : Int) (c : Clue) (xs : List Int) : Int := if clueE w s c = 0 then codeE w s xs else clueE w s c
/-- What the walk of a clue on a code needs to know. -/
structure Use (w s : Int) (c : Clue) (xs : List Int) : Prop where
  lk : lockB w s = true
  cl : clueB w s c = true
  cd : codeB w s xs = true

theorem code_ten {w s : Int} {xs : List Int} (hL : lockB w s = true) (h : codeB w s xs = true) : xs.length ≤ 4 ∧ ∀ x ∈ xs, 0 ≤ x ∧ x < 10 := by
  have h1 := lock_of hL
  obtain ⟨h2, h3⟩ := code_of h
  exact ⟨by omega, fun x hx => by have := h3 x hx; omega⟩

section
variable {w s : Int} {c : Clue} {xs : List Int}
theorem Use.len (h : Use w s c xs) : (xs.length : Int) = w ∧ 1 ≤ xs.length ∧ xs.length ≤ 4 := by
  have h1 := lock_of h.lk
  have h2 := (code_of h.cd).1
  omega
theorem Use.nth (h : Use w s c xs) {i : Int} (h0 : 0 ≤ i) (h1 : i < xs.length) : 0 ≤ nth xs i ∧ nth xs i < 10 := (code_ten h.lk h.cd).2 _ (nth_mem h0 h1)
theorem Use.facts (h : Use w s c xs) : (c.k = 1 → 0 ≤ c.a ∧ c.a < xs.length) ∧ (c.k = 2 → 0 ≤ c.a ∧ c.a ≤ c.b ∧ c.b < xs.length) ∧
    (c.k = 3 ∨ c.k = 4 → 0 ≤ c.a ∧ c.a < xs.length ∧ 0 ≤ c.b ∧ c.b < xs.length) ∧ (c.k = 7 → 0 ≤ c.a ∧ c.a < xs.length ∧ 2 ≤ c.n ∧ c.n ≤ 10) ∧ 1 ≤ c.k ∧ c.k ≤ 7 ∧ (c.k = 7 → 0 ≤ Go.Proofs.Ytldagbcceefcdaa.nth xs c.a) := by
  have h1 := h.len.1
  have h2 := h.cl
  have h3 : c.k = 7 → 0 ≤ c.a ∧ c.a < xs.length ∧ 2 ≤ c.n ∧ c.n ≤ 10 := by
    intro hk; simp [clueB, hk, within] at h2; omega
  refine ⟨?_, ?_, ?_, h3, ?_, ?_, fun hk => (h.nth (h3 hk).1 (h3 hk).2.1).1⟩
  · intro hk; simp [clueB, hk, within] at h2; omega
  · intro hk; simp [clueB, hk, within] at h2; omega
  · rintro (hk | hk) <;> (simp [clueB, hk, within] at h2; omega)
  · unfold clueB at h2; repeat' split at h2
    all_goals first | omega | simp at h2
  · unfold clueB at h2; repeat' split at h2
    all_goals first | omega | simp at h2
theorem Use.guess (h : Use w s c xs) (h6 : c.k = 6) : xs.length = c.g.length ∧ codeB w s c.g = true := by
  have h2 := h.cl
  simp [clueB, h6] at h2
  have h3 := (code_of h2.1.2).1
  have h1 := h.len.1
  exact ⟨by omega, h2.1.2⟩
theorem Use.psum (h : Use w s c xs) (i : Nat) : 0 ≤ lsum ((part xs c.a c.b).take i) ∧ lsum ((part xs c.a c.b).take i) ≤ 40 := by
  have h1 := lsum_bd ((part xs c.a c.b).take i) (fun x hx => (code_ten h.lk h.cd).2 x (List.mem_of_mem_drop (List.mem_of_mem_take (List.mem_of_mem_take hx))))
  have h2 := h.len
  have h3 : ((part xs c.a c.b).take i).length ≤ 4 := by simp [part]; omega
  omega
end
theorem lsum_all (xs : List Int) {i : Int} (h : xs.length ≤ i) : lsum (xs.take i.toNat) = lsum xs := by rw [take_all xs h]
theorem part_len {xs : List Int} {a b : Int} (h0 : 0 ≤ a) (h1 : a ≤ b) (h2 : b < xs.length) : ((part xs a b).length : Int) = b + 1 - a := by
  simp [part]; omega
theorem part_nth {xs : List Int} {a b : Int} (h0 : 0 ≤ a) {i : Int} (h1 : a ≤ i) (h2 : i ≤ b) (h3 : b < xs.length) : nth (part xs a b) (i - a) = nth xs i := by
  have e : a.toNat + (i - a).toNat = i.toNat := by omega
  have e2 : (i - a).toNat < (b + 1).toNat - a.toNat := by omega
  simp [nth, part, List.getD, List.getElem?_take, List.getElem?_drop, e2, e]

theorem cluesE_bad {w s : Int} {cs : List Clue} (hL : lockB w s = true) (h20 : ¬ 20 < (cs.length : Int)) {i : Int} (h0 : 0 ≤ i) (h1 : i < cs.length) (hb : clueB w s (nth cs i) = false) : cluesE w s cs = 11 := by
  have h3 : cs.all (clueB w s) = false := by
    rw [List.all_eq_false]
    exact ⟨_, nth_mem h0 h1, by simp [hb]⟩
  simp only [cluesE, hL, h20, h3, if_true, if_false, Bool.false_eq_true]
theorem cluesE_all {w s : Int} {cs : List Clue} (hL : lockB w s = true) (h20 : ¬ 20 < (cs.length : Int)) (h : ∀ j : Int, 0 ≤ j → j < cs.length → clueB w s (nth cs j) = true) : cluesE w s cs = 0 := by
  have h3 : cs.all (clueB w s) = true := by
    rw [List.all_eq_true]
    intro x hx
    obtain ⟨i, h0, h1, rfl⟩ := mem_nth hx
    exact h i h0 h1
  simp only [cluesE, hL, h20, h3, if_true, if_false]

/-- The error of some codes. -/
def codesE (w s : Int) (xss : List (List Int)) : Int := if lockB w s then if xss.all (codeB w s) then 0 else 12 else 10
theorem ansE_codes {w s : Int} {xs ys : List Int} : ansE w s xs ys = codesE w s [xs, ys] := by
  by_cases h0 : lockB w s = true <;> by_cases h : codeB w s xs = true <;> by_cases h2 : codeB w s ys = true <;> simp [ansE, codesE, codeE, h0, h, h2]
theorem codesE_two {w s : Int} {xs ys : List Int} (h : codesE w s [xs, ys] = 0) : lockB w s = true ∧ codeB w s xs = true ∧ codeB w s ys = true := by
  unfold codesE at h
  cases h1 : lockB w s <;> cases h2 : codeB w s xs <;> cases h3 : codeB w s ys <;> simp_all
theorem codeE_lock {w s : Int} {xs : List Int} (h : codeE w s xs = 0) : lockB w s = true := by
  unfold codeE at h; cases h1 : lockB w s <;> simp_all
theorem codeE_code {w s : Int} {xs : List Int} (h : codeE w s xs = 0) : codeB w s xs = true := by
  unfold codeE at h; cases h1 : lockB w s <;> cases h2 : codeB w s xs <;> simp_all
theorem codeE_of {w s : Int} {xs : List Int} (hL : lockB w s = true) (h : codeB w s xs = true) : codeE w s xs = 0 := by simp [codeE, hL, h]
theorem cluesE_lock {w s : Int} {cs : List Clue} (h : cluesE w s cs = 0) : lockB w s = true := by
  unfold cluesE at h; cases h1 : lockB w s <;> simp_all
theorem clueE_lock {w s : Int} {c : Clue} (h : clueE w s c = 0) : lockB w s = true := by
  unfold clueE at h; cases h1 : lockB w s <;> simp_all
theorem cluesE_len {w s : Int} {cs : List Clue} (h : cluesE w s cs = 0) : cs.length ≤ 20 := by
  unfold cluesE at h; repeat' split at h
  all_goals first | omega | simp at h
theorem cluesE_clue {w s : Int} {cs : List Clue} (h : cluesE w s cs = 0) : ∀ c ∈ cs, clueB w s c = true := by
  have : cs.all (clueB w s) = true := by
    unfold cluesE at h; repeat' split at h
    all_goals first | assumption | simp at h
  exact List.all_eq_true.1 this
theorem use_all {w s : Int} {cs : List Clue} {xs : List Int} (h : cluesE w s cs = 0) (h2 : codeE w s xs = 0) : ∀ c ∈ cs, Use w s c xs :=
  fun c hc => ⟨cluesE_lock h, cluesE_clue h c hc, codeE_code h2⟩
theorem use_one {w s : Int} {c : Clue} {xs : List Int} (h : clueE w s c = 0) (h2 : codeE w s xs = 0) : Use w s c xs :=
  ⟨clueE_lock h, by unfold clueE at h; cases h1 : lockB w s <;> cases h3 : clueB w s c <;> simp_all, codeE_code h2⟩

def clCells (c : Clue) (g : Value) : List Value := [.int .i64 c.k, .int .i64 c.a, .int .i64 c.b, .int .i64 c.n, .int .i64 c.m, g, .bool c.nt]
def clFlat (cs : List Clue) (gs : List Value) : List Value := (List.zipWith clCells cs gs).flatten

theorem flat_at {α : Type} (k : Nat) : ∀ (L : List (List α)), (∀ x ∈ L, x.length = k) → ∀ i j, j < k → L.flatten[i * k + j]? = (L[i]?).bind fun x => x[j]?
  | [], _, i, j, _ => by simp
  | x :: L, h, 0, j, hj => by
    have hx := h x (by simp)
    simp only [List.flatten_cons, Nat.zero_mul, Nat.zero_add]
    rw [List.getElem?_append_left (by omega)]
    simp
  | x :: L, h, i + 1, j, hj => by
    have hx := h x (by simp)
    simp only [List.flatten_cons]
    rw [List.getElem?_append_right (by rw [hx, Nat.succ_mul]; omega)]
    have e : (i + 1) * k + j - x.length = i * k + j := by rw [hx, Nat.succ_mul]; omega
    rw [e, flat_at k L (fun y hy => h y (by simp [hy])) i j hj]
    simp
theorem flat_len {α : Type} (k : Nat) : ∀ (L : List (List α)), (∀ x ∈ L, x.length = k) → L.flatten.length = L.length * k
  | [], _ => by simp
  | x :: L, h => by
    simp only [List.flatten_cons, List.length_append, List.length_cons, flat_len k L (fun y hy => h y (by simp [hy])), h x (by simp), Nat.succ_mul]
    omega
theorem clFlat_at {cs : List Clue} {gs : List Value} (hl : gs.length = cs.length) {i : Int} (h0 : 0 ≤ i) (h1 : i < cs.length) (j : Nat) (hj : j < 7) : (clFlat cs gs)[i.toNat * 7 + j]? = (clCells (nth cs i) (nth gs i))[j]? := by
  have hc : i.toNat < cs.length := by omega
  have hg : i.toNat < gs.length := by omega
  unfold clFlat
  rw [flat_at 7 _ (by intro x hx; obtain ⟨n, hn, rfl⟩ := List.getElem_of_mem hx; simp [clCells]) _ _ hj]
  have e : (List.zipWith clCells cs gs)[i.toNat]? = some (clCells cs[i.toNat] gs[i.toNat]) := by simp [List.getElem?_zipWith, hc, hg]
  rw [e]
  simp [nth, List.getD, hc, hg]

/-- A slice of clues. -/
structure ClS (u : World) (v : Value) (cs : List Clue) (gs : List Value) : Prop where
  sp : SlC u v cs.length 7 (clFlat cs gs)
  len : gs.length = cs.length
  el : ∀ i : Int, 0 ≤ i → i < cs.length → SlI u (nth gs i) (nth cs i).g
theorem ClS.ext {w u : World} {v : Value} {cs : List Clue} {gs : List Value} (h : ClS w v cs gs) (hb : Below w.heap.size w u) : ClS u v cs gs := ⟨h.sp.ext hb, h.len, fun i h0 h1 => (h.el i h0 h1).ext hb⟩
theorem ClS.le {u : World} {v : Value} {cs : List Clue} {gs : List Value} (h : ClS u v cs gs) : cs.length ≤ 9223372036854775807 := h.sp.le

section
variable {P : Program} {ro : Option Nat} {n0 : Nat} {w0 : World} {ds : List Deferred} {ops : Array Oper} {Q : Exit → Act → World → Prop} {L : List SA}
  {rest : List Oper} {l : List Value} {d : Option Tmp} {ty : TypeId} {ps : String} {af : Array Edge} {g : Option (Nat × Bool)} {C : World → Prop}
theorem ClS.st {u : World} {v : Value} {cs : List Clue} {gs : List Value} (h : ClS w0 v cs gs) (hu : St w0.heap.size w0 L u) : ClS u v cs gs := h.ext hu.below
theorem det_idxCl {T e : TypeId} {by_ : Nat} {x y : Operand} {v : Value} {i : Int} {w : World} {cs : List Clue} {gs : List Value} (hT : sl P T = some (e, 7, by_)) (hx : evo l x = some v) (hy : evo l y = some (.int .i64 i))
    (hs : ClS w v cs gs) (h0 : 0 ≤ i) (h1 : i < cs.length) : Det P C ⟨d, .indexAddr T x y, ty, ps, af, g⟩ l (.pointer (some (sla v (i.toNat * 7)))) :=
  det_indexS hT hx hy hs.sp h0 h1
theorem det_ldCl {T : TypeId} {x : Operand} {v : Value} {cs : List Clue} {gs : List Value} {i : Int} (hx : evo l x = some (.pointer (some (sla v (i.toNat * 7))))) (hs : ClS w0 v cs gs) (h : 0 ≤ i ∧ i < cs.length) (hT : tk P T = some (true, 7)) :
    Det P (St w0.heap.size w0 L) ⟨d, .load T x, ty, ps, af, g⟩ l (.agg #[.int .i64 (nth cs i).k, .int .i64 (nth cs i).a, .int .i64 (nth cs i).b, .int .i64 (nth cs i).n, .int .i64 (nth cs i).m, nth gs i, .bool (nth cs i).nt]) :=
  det_loadSN (cs := clCells (nth cs i) (nth gs i)) hx (fun _ hu => hs.sp.ext hu.below) (fun j y hy => by
    have hj : j < 7 := by have := (List.getElem?_eq_some_iff.1 hy).1; simpa [clCells] using this
    rw [clFlat_at hs.len h.1 h.2 j hj]; exact hy) hT
end

end Go.Proofs.Ytldagbcceefcdaa
