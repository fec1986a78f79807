/- From open arguments to a clue with a code, and to two lists. No program in sight. -/
import Derived.Test.YtldagbcceefcdaaBridge
namespace Go.Proofs.Ytldagbcceefcdaa
set_option linter.unusedVariables false
set_option linter.unusedSimpArgs false
open Go.ChangeShapes Go.WideShapes Go.ChangeAt Go.RowKit Go.Deep Go.Joins

section
variable {H : Type} {enc : TypeId × Value → H} {P : Program} {w : World} {base : Nat}
theorem read_trial {t e : TypeId} {f0 f1 : Field} {fuel : Nat} {cs : List Value} {x : DataW H × List MemPlace} (hs : P.underlying t = some (.struct #[f0, f1]))
    (ho : [f0.offset, f1.offset] = [0, 7]) (hc : [P.cellsOf f0.type, P.cellsOf f1.type] = [7, 1]) (hC : P.cellsOf t = 8)
    (hclue : ∀ (fuel : Nat) (cs : List Value) (x : DataW H × List MemPlace), DataW.trod enc P w base (fun _ => true) true fuel f0.type cs = some x → ∃ c : Clue × Value, cs = clCells c.1 c.2 ∧ SlI w c.2 c.1.g)
    (h1 : P.underlying f1.type = some (.slice e)) (he : P.underlying e = some (.int .i64)) (hce : P.cellsOf e = 1)
    (h : DataW.trod enc P w base (fun _ => true) true fuel t cs = some x) : ∃ (c : Clue × Value) (xs : List Int) (xv : Value), cs = clCells c.1 c.2 ++ [xv] ∧ SlI w c.2 c.1.g ∧ SlI w xv xs := by
  obtain ⟨xs, n, _, _, hl, hlen, hf⟩ := DataW.trod_struct hs h
  rw [hC] at hl
  simp only [List.cons.injEq, and_true] at ho hc
  obtain ⟨o0, o1⟩ := ho
  obtain ⟨k0, k1⟩ := hc
  match cs, hl with
  | [c0, c1, c2, c3, c4, c5, c6, c7], _ =>
    match xs, hlen with
    | [y0, y1], _ =>
      have g0 := hf 0 f0 rfl
      have g1 := hf 1 f1 rfl
      rw [o0, k0] at g0
      rw [o1, k1] at g1
      simp at g0 g1
      obtain ⟨c, e0, r0⟩ := hclue _ _ _ g0
      obtain ⟨zs, e1⟩ := read_ints h1 he hce g1
      exact ⟨c, zs, c7, by rw [← e0]; rfl, r0, e1⟩
theorem read_pair {t e : TypeId} {f0 f1 : Field} {fuel : Nat} {cs : List Value} {x : DataW H × List MemPlace} (hs : P.underlying t = some (.struct #[f0, f1]))
    (ho : [f0.offset, f1.offset] = [0, 1]) (hc : [P.cellsOf f0.type, P.cellsOf f1.type] = [1, 1]) (hC : P.cellsOf t = 2)
    (h0 : P.underlying f0.type = some (.slice e)) (h1 : P.underlying f1.type = some (.slice e)) (he : P.underlying e = some (.int .i64)) (hce : P.cellsOf e = 1)
    (h : DataW.trod enc P w base (fun _ => true) true fuel t cs = some x) : ∃ (xs ys : List Int) (xv yv : Value), cs = [xv, yv] ∧ SlI w xv xs ∧ SlI w yv ys := by
  obtain ⟨xs, n, _, _, hl, hlen, hf⟩ := DataW.trod_struct hs h
  rw [hC] at hl
  simp only [List.cons.injEq, and_true] at ho hc
  obtain ⟨o0, o1⟩ := ho
  obtain ⟨k0, k1⟩ := hc
  match cs, hl with
  | [c0, c1], _ =>
    match xs, hlen with
    | [y0, y1], _ =>
      have g0 := hf 0 f0 rfl
      have g1 := hf 1 f1 rfl
      rw [o0, k0] at g0
      rw [o1, k1] at g1
      simp at g0 g1
      obtain ⟨z0, e0⟩ := read_ints h0 he hce g0
      obtain ⟨z1, e1⟩ := read_ints h1 he hce g1
      exact ⟨z0, z1, c0, c1, rfl, e0, e1⟩
end
end Go.Proofs.Ytldagbcceefcdaa
