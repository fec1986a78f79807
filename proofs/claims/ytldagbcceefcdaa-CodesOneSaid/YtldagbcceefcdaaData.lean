/- Slices of numbers as they read, and what reading them hands back. No program in sight. -/
import Derived.Test.YtldagbcceefcdaaDraw
namespace Go.Proofs.Ytldagbcceefcdaa
set_option linter.unusedVariables false
set_option linter.unusedSimpArgs false
open Go.RowKit

/-- v is a slice of numbers that reads xs. -/
def SlI (u : World) (v : Value) (xs : List Int) : Prop := SlC u v xs.length 1 (xs.map (Value.int .i64))
/-- What stands at a place. -/
def nth {α : Type} [Inhabited α] (xs : List α) (i : Int) : α := xs.getD i.toNat default

theorem SlI.ext {w u : World} {v : Value} {xs : List Int} (h : SlI w v xs) (hb : Below w.heap.size w u) : SlI u v xs := SlC.ext h hb
theorem SlI.le {u : World} {v : Value} {xs : List Int} (h : SlI u v xs) : xs.length ≤ 9223372036854775807 := SlC.le h
theorem SlI.st {w0 u : World} {L : List SA} {v : Value} {xs : List Int} (h : SlI w0 v xs) (hu : St w0.heap.size w0 L u) : SlI u v xs := h.ext hu.below

theorem nth_ext {xs ys : List Int} (hl : xs.length = ys.length) (h : ∀ i : Int, 0 ≤ i → i < xs.length → nth xs i = nth ys i) : xs = ys := by
  apply List.ext_getElem hl
  intro i h1 h2
  have := h i (by omega) (by omega)
  simpa [nth, List.getD, h1, h2] using this
theorem nth_mem {α : Type} [Inhabited α] {xs : List α} {i : Int} (h0 : 0 ≤ i) (h1 : i < xs.length) : nth xs i ∈ xs := by
  have : i.toNat < xs.length := by omega
  simp [nth, List.getD, this]
theorem nth_at {α : Type} [Inhabited α] {xs : List α} {i : Int} (h0 : 0 ≤ i) (h1 : i < xs.length) : xs[i.toNat]? = some (nth xs i) := by
  have : i.toNat < xs.length := by omega
  simp [nth, List.getD, this]
theorem mem_nth {α : Type} [Inhabited α] {xs : List α} {x : α} (h : x ∈ xs) : ∃ i : Int, 0 ≤ i ∧ i < xs.length ∧ nth xs i = x := by
  obtain ⟨n, hn, rfl⟩ := List.getElem_of_mem h
  exact ⟨n, by omega, by omega, by simp [nth, List.getD, hn]⟩
/-- The first place at which p holds; -1. -/
def idxF {α : Type} (p : α → Bool) (xs : List α) : Int := match xs.findIdx? p with | some i => i | none => -1
theorem idxF_found {α : Type} [Inhabited α] {p : α → Bool} {xs : List α} {s : Int} (h0 : 0 ≤ s) (h1 : s < xs.length) (hb : ∀ j : Int, 0 ≤ j → j < s → p (nth xs j) = false) (hp : p (nth xs s) = true) : idxF p xs = s := by
  have hlt : s.toNat < xs.length := by omega
  have : xs.findIdx? p = some s.toNat := by
    rw [List.findIdx?_eq_some_iff_getElem]
    refine ⟨hlt, by simpa [nth, List.getD, hlt] using hp, fun j hj => ?_⟩
    have := hb j (by omega) (by omega)
    have hj' : j < xs.length := by omega
    simpa [nth, List.getD, hj'] using this
  simp [idxF, this]; omega
theorem idxF_none {α : Type} [Inhabited α] {p : α → Bool} {xs : List α} (hb : ∀ j : Int, 0 ≤ j → j < xs.length → p (nth xs j) = false) : idxF p xs = -1 := by
  have : xs.findIdx? p = none := by
    rw [List.findIdx?_eq_none_iff]
    intro x hx
    obtain ⟨i, h0, h1, rfl⟩ := mem_nth hx
    exact hb i h0 h1
  simp [idxF, this]
theorem idxF_any {α : Type} {p : α → Bool} {xs : List α} : decide (0 ≤ idxF p xs) = xs.any p := by
  unfold idxF
  cases h : xs.findIdx? p with
  | none =>
    rw [List.findIdx?_eq_none_iff] at h
    have : xs.any p = false := by simpa using h
    simp [this]
  | some i =>
    rw [List.findIdx?_eq_some_iff_getElem] at h
    obtain ⟨h1, h2, _⟩ := h
    have : xs.any p = true := List.any_eq_true.2 ⟨_, List.getElem_mem h1, h2⟩
    simp [this]
theorem bool_t {p : Prop} [Decidable p] (h : p) : Value.bool true = .bool (decide p) := by simp [h]
theorem bool_f {p : Prop} [Decidable p] (h : ¬ p) : Value.bool false = .bool (decide p) := by simp [h]

section
variable {P : Program} {ro : Option Nat} {n0 : Nat} {w0 : World} {ds : List Deferred} {ops : Array Oper} {Q : Exit → Act → World → Prop} {L : List SA}
  {rest : List Oper} {l : List Value} {d : Option Tmp} {ty : TypeId} {ps : String} {af : Array Edge} {g : Option (Nat × Bool)} {C : World → Prop}

theorem det_idxI {T e : TypeId} {by_ : Nat} {x y : Operand} {v : Value} {i : Int} {w : World} {xs : List Int} (hT : sl P T = some (e, 1, by_)) (hx : evo l x = some v) (hy : evo l y = some (.int .i64 i))
    (hs : SlI w v xs) (h0 : 0 ≤ i) (h1 : i < xs.length) : Det P C ⟨d, .indexAddr T x y, ty, ps, af, g⟩ l (.pointer (some (sla v i.toNat))) := by
  have := det_indexS (P := P) (C := C) (d := d) (ty := ty) (ps := ps) (af := af) (g := g) hT hx hy hs h0 h1
  rwa [Nat.mul_one] at this
theorem nth_map {xs : List Int} {i : Int} (h : 0 ≤ i ∧ i < xs.length) : (xs.map (Value.int .i64))[i.toNat]? = some (.int .i64 (nth xs i)) := by
  have : i.toNat < xs.length := by omega
  simp [nth, List.getD, this]
theorem nth_one {α : Type} [Inhabited α] {xs : List α} {i : Int} (h : 0 ≤ i ∧ i < xs.length) : xs[i.toNat]? = some (nth xs i) := nth_at h.1 h.2
theorem det_ldI {T : TypeId} {x : Operand} {v : Value} {z : Nat} {xs : List Int} {i : Int} (hx : evo l x = some (.pointer (some (sla v i.toNat)))) (hs : SlI w0 v xs) (h : 0 ≤ i ∧ i < xs.length) (hT : tk P T = some (false, z)) :
    Det P (St w0.heap.size w0 L) ⟨d, .load T x, ty, ps, af, g⟩ l (.int .i64 (nth xs i)) :=
  det_loadS hx (fun _ hu => SlC.st hs hu) (nth_map h) hT

/-- A block that lay there when the walk began (a variable that is captured). -/
def BlkAt (u : World) (b : Nat) (c : List Value) (e : TypeId) : Prop := u.heap[b]? = some (.cells c.toArray e (0, 0))
theorem BlkAt.lt {u : World} {b : Nat} {c : List Value} {e : TypeId} (h : BlkAt u b c e) : b < u.heap.size := (Array.getElem?_eq_some_iff.1 h).1
theorem BlkAt.ext {w u : World} {b : Nat} {c : List Value} {e : TypeId} (h : BlkAt w b c e) (hb : Below w.heap.size w u) : BlkAt u b c e := (hb.block b h.lt).trans h
theorem BlkAt.st {u : World} {b : Nat} {c : List Value} {e : TypeId} (h : BlkAt w0 b c e) (hu : St w0.heap.size w0 L u) : BlkAt u b c e := h.ext hu.below
theorem st_blk {u : World} {b : Nat} {c : List Value} {e : TypeId} {j : Nat} (h : St n0 w0 L u) (hj : L[j]? = some (blk b c e)) : BlkAt u b c e := (h.blk hj).2
theorem det_loadw {T : TypeId} {x : Operand} {b i k : Nat} {c : List Value} {e : TypeId} {v : Value} (hx : evo l x = some (.pointer (some ⟨b, i, none⟩))) (hb : BlkAt w0 b c e) (hv : c[i]? = some v) (hT : tk P T = some (false, k)) :
    Det P (St w0.heap.size w0 L) ⟨d, .load T x, ty, ps, af, g⟩ l v := det_load hT hx fun _ hu => by rw [blk_cell (hb.st hu)]; exact hv
theorem det_loadwN {T : TypeId} {x : Operand} {b : Nat} {c : List Value} {e : TypeId} (hx : evo l x = some (.pointer (some ⟨b, 0, none⟩))) {n : Nat} (hb : BlkAt w0 b c e) (hn : c.length = n) (hT : tk P T = some (true, n)) :
    Det P (St w0.heap.size w0 L) ⟨d, .load T x, ty, ps, af, g⟩ l (.agg c.toArray) := det_loadN (hn ▸ hT) hx fun _ hu j v hj => by rw [Nat.zero_add, blk_cell (hb.st hu)]; exact hj

/-- A slice of slices of numbers. -/
structure SlL (u : World) (v : Value) (xss : List (List Int)) (gs : List Value) : Prop where
  sp : SlC u v xss.length 1 gs
  el : ∀ i : Int, 0 ≤ i → i < xss.length → SlI u (nth gs i) (nth xss i)
theorem SlL.ext {w u : World} {v : Value} {xss : List (List Int)} {gs : List Value} (h : SlL w v xss gs) (hb : Below w.heap.size w u) : SlL u v xss gs := ⟨h.sp.ext hb, fun i h0 h1 => (h.el i h0 h1).ext hb⟩
theorem SlL.st {u : World} {v : Value} {xss : List (List Int)} {gs : List Value} (h : SlL w0 v xss gs) (hu : St w0.heap.size w0 L u) : SlL u v xss gs := h.ext hu.below
theorem SlL.le {u : World} {v : Value} {xss : List (List Int)} {gs : List Value} (h : SlL u v xss gs) : xss.length ≤ 9223372036854775807 := h.sp.le
theorem det_idxL {T e : TypeId} {by_ : Nat} {x y : Operand} {v : Value} {i : Int} {w : World} {xss : List (List Int)} {gs : List Value} (hT : sl P T = some (e, 1, by_)) (hx : evo l x = some v) (hy : evo l y = some (.int .i64 i))
    (hs : SlL w v xss gs) (h0 : 0 ≤ i) (h1 : i < xss.length) : Det P C ⟨d, .indexAddr T x y, ty, ps, af, g⟩ l (.pointer (some (sla v i.toNat))) := by
  have := det_indexS (P := P) (C := C) (d := d) (ty := ty) (ps := ps) (af := af) (g := g) hT hx hy hs.sp h0 h1
  rwa [Nat.mul_one] at this
theorem det_ldL {T : TypeId} {x : Operand} {v : Value} {z : Nat} {xss : List (List Int)} {gs : List Value} {i : Int} (hx : evo l x = some (.pointer (some (sla v i.toNat)))) (hs : SlL w0 v xss gs) (h : 0 ≤ i ∧ i < xss.length) (hT : tk P T = some (false, z)) :
    Det P (St w0.heap.size w0 L) ⟨d, .load T x, ty, ps, af, g⟩ l (nth gs i) :=
  det_loadS hx (fun _ hu => hs.sp.st hu) (nth_one ⟨h.1, by have := hs.sp.len; omega⟩) hT
theorem SlL.two {u : World} {v v1 v2 : Value} {xs ys : List Int} (h : SlC u v 2 1 [v1, v2]) (h1 : SlI u v1 xs) (h2 : SlI u v2 ys) : SlL u v [xs, ys] [v1, v2] :=
  ⟨h, fun i h0 hi => by
    simp at hi
    rcases (by omega : i = 0 ∨ i = 1) with rfl | rfl
    · exact h1
    · exact h2⟩
theorem SlL.one {u : World} {v v1 : Value} {xs : List Int} (h : SlC u v 1 1 [v1]) (h1 : SlI u v1 xs) : SlL u v [xs] [v1] :=
  ⟨h, fun i h0 hi => by
    simp at hi
    obtain rfl : i = 0 := by omega
    exact h1⟩
end

end Go.Proofs.Ytldagbcceefcdaa
