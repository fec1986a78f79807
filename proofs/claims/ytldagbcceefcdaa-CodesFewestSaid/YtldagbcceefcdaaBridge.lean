import Derived.Test.YtldagbcceefcdaaClue
import Derived.Test.YtldagbcceefcdaaIter
import Derived.ProofKit
import Derived.Deep.Slices
import Derived.Lib.SmallJoins
/- part Bridge -/
/- From open arguments to slices and clues as lists; from a contract to what a row promises. -/
namespace Go.Proofs.Ytldagbcceefcdaa
set_option linter.unusedVariables false
set_option linter.unusedSimpArgs false
open Go.ChangeShapes Go.WideShapes Go.ChangeAt Go.RowKit Go.Deep Go.Joins

section
variable {H : Type} {enc : TypeId × Value → H} {P : Program} {w : World} {base : Nat}

theorem read_ints {t e : TypeId} {fuel : Nat} {v : Value} {x : DataW H × List MemPlace} (ht : P.underlying t = some (.slice e)) (he : P.underlying e = some (.int .i64)) (hc : P.cellsOf e = 1)
    (h : DataW.trod enc P w base (fun _ => true) true fuel t [v] = some x) : ∃ xs, SlI w v xs := by
  rcases open_ints ht he hc h with ⟨h1, _⟩ | ⟨a, len, cap, zs, h1, _, hl, hm, hlen, _, hcell, _⟩
  · simp at h1; subst h1
    exact ⟨[], SlI.nil w⟩
  · simp at h1; subst h1
    have hm' : cap ≤ 9223372036854775807 := hm
    simp at hlen
    have hxl : (zs.take len).length = len := by simp; omega
    refine ⟨zs.take len, by simp, some a, cap, by rw [hxl], by omega, ?_⟩
    rcases Nat.eq_zero_or_pos len with h0 | h0
    · left; omega
    · right
      obtain ⟨b, o, s⟩ := a
      have hs : s = none := by simpa [Addr.add] using World.cell?_spot (hcell 0 (by omega))
      subst hs
      refine ⟨b, o, rfl, fun m y hy => ?_⟩
      rw [List.getElem?_map, List.getElem?_take] at hy
      split at hy
      · have hmz : m < zs.length := by omega
        have := hcell m hmz
        rw [addr_add] at this
        rw [this]
        simp [List.getElem?_eq_getElem hmz] at hy
        simp [hmz, hy]
      · simp at hy

theorem read_lock {t : TypeId} {f0 f1 : Field} {r : Reach} {b0 : Nat} {v : Value} {d : DataW H} {p : List MemPlace} (hs : P.underlying t = some (.struct #[f0, f1])) (hone : oneCellFields P #[f0, f1] = true) (hC : P.cellsOf t = 2)
    (h0 : P.underlying f0.type = some (.int .i64)) (h1 : P.underlying f1.type = some (.int .i64)) (hv : Value.okWide P w r b0 t v) (h : DataW.Trod enc P w base (fun _ => true) true t v d p) :
    ∃ lw ls, v = .agg #[.int .i64 lw, .int .i64 ls] := by
  obtain ⟨v0, v1, y0, y1, n, rfl, _, _, k0, k1⟩ := open_agg2 hs hone hC hv h
  obtain ⟨a, ha, _⟩ := DataW.trod_int h0 k0
  obtain ⟨b, hb, _⟩ := DataW.trod_int h1 k1
  simp at ha hb
  exact ⟨a, b, by rw [ha, hb]⟩

theorem read_clue {t e : TypeId} {f0 f1 f2 f3 f4 f5 f6 : Field} {fuel : Nat} {cs : List Value} {x : DataW H × List MemPlace} (hs : P.underlying t = some (.struct #[f0, f1, f2, f3, f4, f5, f6]))
    (ho : [f0.offset, f1.offset, f2.offset, f3.offset, f4.offset, f5.offset, f6.offset] = [0, 1, 2, 3, 4, 5, 6])
    (hc : [P.cellsOf f0.type, P.cellsOf f1.type, P.cellsOf f2.type, P.cellsOf f3.type, P.cellsOf f4.type, P.cellsOf f5.type, P.cellsOf f6.type] = [1, 1, 1, 1, 1, 1, 1]) (hC : P.cellsOf t = 7)
    (h0 : P.underlying f0.type = some (.int .i64)) (h1 : P.underlying f1.type = some (.int .i64)) (h2 : P.underlying f2.type = some (.int .i64)) (h3 : P.underlying f3.type = some (.int .i64)) (h4 : P.underlying f4.type = some (.int .i64))
    (h5 : P.underlying f5.type = some (.slice e)) (he : P.underlying e = some (.int .i64)) (hce : P.cellsOf e = 1) (h6 : P.underlying f6.type = some .bool)
    (h : DataW.trod enc P w base (fun _ => true) true fuel t cs = some x) : ∃ c : Clue × Value, cs = clCells c.1 c.2 ∧ SlI w c.2 c.1.g := by
  obtain ⟨xs, n, _, _, hl, hlen, hf⟩ := DataW.trod_struct hs h
  rw [hC] at hl
  simp only [List.cons.injEq, and_true] at ho hc
  obtain ⟨o0, o1, o2, o3, o4, o5, o6⟩ := ho
  obtain ⟨k0, k1, k2, k3, k4, k5, k6⟩ := hc
  match cs, hl with
  | [c0, c1, c2, c3, c4, c5, c6], _ =>
    match xs, hlen with
    | [y0, y1, y2, y3, y4, y5, y6], _ =>
      have g0 := hf 0 f0 rfl
      have g1 := hf 1 f1 rfl
      have g2 := hf 2 f2 rfl
      have g3 := hf 3 f3 rfl
      have g4 := hf 4 f4 rfl
      have g5 := hf 5 f5 rfl
      have g6 := hf 6 f6 rfl
      rw [o0, k0] at g0
      rw [o1, k1] at g1
      rw [o2, k2] at g2
      rw [o3, k3] at g3
      rw [o4, k4] at g4
      rw [o5, k5] at g5
      rw [o6, k6] at g6
      simp at g0 g1 g2 g3 g4 g5 g6
      obtain ⟨a0, e0, _⟩ := DataW.trod_int h0 g0
      obtain ⟨a1, e1, _⟩ := DataW.trod_int h1 g1
      obtain ⟨a2, e2, _⟩ := DataW.trod_int h2 g2
      obtain ⟨a3, e3, _⟩ := DataW.trod_int h3 g3
      obtain ⟨a4, e4, _⟩ := DataW.trod_int h4 g4
      obtain ⟨xs5, e5⟩ := read_ints h5 he hce g5
      obtain ⟨a6, e6, _⟩ := DataW.trod_bool h6 g6
      simp at e0 e1 e2 e3 e4 e6
      subst e0; subst e1; subst e2; subst e3; subst e4; subst e6
      exact ⟨(⟨a0, a1, a2, a3, a4, xs5, a6⟩, c5), rfl, e5⟩

theorem read_clues {t s : TypeId} {fuel : Nat} {v : Value} {x : DataW H × List MemPlace} (ht : P.underlying t = some (.slice s)) (hC : P.cellsOf s = 7)
    (hone : ∀ (fuel : Nat) (cs : List Value) (x : DataW H × List MemPlace), DataW.trod enc P w base (fun _ => true) true fuel s cs = some x → ∃ c : Clue × Value, cs = clCells c.1 c.2 ∧ SlI w c.2 c.1.g)
    (h : DataW.trod enc P w base (fun _ => true) true fuel t [v] = some x) : ∃ cs gs, ClS w v cs gs := by
  rcases open_slice ht h with ⟨h1, _⟩ | ⟨a, len, cap, m, n, D, Pl, h1, _, hl, hm, hmm, _, hcell⟩
  · simp at h1; subst h1
    exact ⟨[], [], ⟨by decide, none, 0, rfl, by decide, Or.inl rfl⟩, rfl, fun i h0 h1 => by simp at h1; omega⟩
  · simp at h1; subst h1
    simp at hmm
    have hm' : cap ≤ 9223372036854775807 := hm
    rw [hC] at hcell
    obtain ⟨f, hf⟩ := choose_lt (α := Clue × Value) (n := len) (p := fun i c => w.cells? base (a.add (i * 7)) 7 = some (clCells c.1 c.2) ∧ SlI w c.2 c.1.g) (fun i hi => by
      obtain ⟨cs', k1, k2⟩ := hcell i (by omega)
      obtain ⟨c, rfl, k3⟩ := hone _ _ _ k2
      exact ⟨c, k1, k3⟩)
    have hlen1 : ((List.range len).map fun i => (f i).1).length = len := by simp
    refine ⟨(List.range len).map fun i => (f i).1, (List.range len).map fun i => (f i).2, ⟨?_, some a, cap, by rw [hlen1], by omega, ?_⟩, by simp, ?_⟩
    · unfold clFlat
      rw [flat_len 7 _ (by intro y hy; obtain ⟨k, hk, rfl⟩ := List.getElem_of_mem hy; simp [clCells])]
      simp
    · rcases Nat.eq_zero_or_pos len with h0 | h0
      · left; simpa using h0
      · right
        obtain ⟨b, o, s'⟩ := a
        have hs : s' = none := by
          have := (World.cells?_some (hf 0 h0).1).2.2 0 (by decide)
          simpa [Addr.add] using World.cell?_spot this
        subst hs
        refine ⟨b, o, rfl, fun k y hy => ?_⟩
        have hk : k < len * 7 := by
          have h1 := (List.getElem?_eq_some_iff.1 hy).1
          unfold clFlat at h1
          rw [flat_len 7 _ (by intro y hy; obtain ⟨k, hk, rfl⟩ := List.getElem_of_mem hy; simp [clCells])] at h1
          simpa using h1
        have hq : k / 7 < len := by omega
        have hr : k % 7 < 7 := Nat.mod_lt _ (by decide)
        have e : k = k / 7 * 7 + k % 7 := by omega
        rw [e] at hy
        unfold clFlat at hy
        rw [flat_at 7 _ (by intro y hy; obtain ⟨k, hk, rfl⟩ := List.getElem_of_mem hy; simp [clCells]) _ _ hr] at hy
        simp [List.getElem?_zipWith, hq] at hy
        have := (World.cells?_some (hf _ hq).1).2.2 (k % 7) hr
        rw [hy] at this
        rw [addr_add, addr_add] at this
        rw [e]
        simpa [Nat.add_assoc] using this
    · intro i h0 h1
      have hi : i.toNat < len := by simp at h1; omega
      have := (hf _ hi).2
      simpa [nth, List.getD, hi] using this

theorem trodAll_stays (hl : laidOutB P = true) {W W' : World} {sp : Nat → Bool} : ∀ {ts : List TypeId} {vs : List Value} {ds : List (DataW H)} {ps : List MemPlace}, (∀ t ∈ ts, P.readableRec t = true ∧ t < P.types.size) →
    DataW.TrodAll enc P W base (fun _ => true) true ts vs ds ps → (∀ p ∈ ps, W.sameAt W' p) → (∀ p ∈ ps, sp p.block = true) → DataW.TrodAll enc P W' base sp true ts vs ds ps
  | [], [], [], ps, _, h, _, _ => h
  | t :: ts, v :: vs, d :: ds, ps, hr, ⟨p, q, h1, h2, e⟩, hs, hsp => by
    subst e
    exact ⟨p, q, WideElems.Trod_stays hl (hr t (by simp)).1 (hr t (by simp)).2 h1 (fun x hx => hs x (by simp [hx])) (fun x hx => hsp x (by simp [hx])),
      trodAll_stays hl (fun t ht => hr t (by simp [ht])) h2 (fun x hx => hs x (by simp [hx])) (fun x hx => hsp x (by simp [hx])), rfl⟩
  | [], [], _ :: _, _, _, h, _, _ => h.elim
  | [], _ :: _, _, _, _, h, _, _ => h.elim
  | _ :: _, [], _, _, _, h, _, _ => h.elim
  | _ :: _, _ :: _, [], _, _, h, _, _ => h.elim

/-- WHAT A LAW'S ROW PROMISES, out of a contract that answers true and turns nothing. -/
theorem law_post {f : Func} {s : ChangeSpec} {apart fresh handsOn again : Bool} {W W' : World} {args : Array Value} {ds : List (DataW H)} {gs : List (DataW H)} {before : List MemPlace} {tb : TypeId}
    (hl : laidOutB P = true) (hr0 : (f.params.toList.all fun t => P.readableRec t && decide (t < P.types.size)) = true) (hrt : f.resultTypes = #[tb]) (htb : P.underlying tb = some .bool)
    (hW : DataW.Whole enc P f.params.toList s.vars apart W args.toList ds gs before) (hv : s.vars = []) (hb : Below W.heap.size W W')
    (hres : (s.fn H (ds ++ gs)).results = [.lit (.bool true)]) (hargs : (s.fn H (ds ++ gs)).args = ds) (hvars : (s.fn H (ds ++ gs)).vars = []) : s.post enc P f apart fresh handsOn again W args (.bool true) W' := by
  have hr : ∀ t ∈ f.params.toList, P.readableRec t = true ∧ t < P.types.size := fun t ht => by
    have := List.all_eq_true.1 hr0 t ht
    simpa using this
  have hlt : ∀ p ∈ before, p.block < W.heap.size := fun p hp => hW.lt p hp
  have hW0 := hW
  obtain ⟨p, q, hA, hV, rfl, hfz, hnd⟩ := hW
  rw [hv] at hV
  obtain ⟨rfl, rfl⟩ := trodVars_none hV
  have hone : ∀ (b : Nat) (sp : Nat → Bool) (hd : Bool), DataW.TrodAll enc P W' b sp hd [tb] [.bool true] [.lit (.bool true)] [] := fun b sp hd =>
    trodAll_mk1 ⟨1, by simp [DataW.trod, Value.cells, htb]⟩
  have hall : ∀ sp : Nat → Bool, (∀ x ∈ p, sp x.block = true) → DataW.TrodAll enc P W' 0 sp true f.params.toList args.toList ds p := fun sp hsp =>
    trodAll_stays hl hr hA (fun x hx => hb.same (hlt x (by simp [hx]))) hsp
  refine ⟨ds, [], p ++ [], [], p, [], hW0, ?_, ?_, ?_, hb.frame _, fun _ => ⟨?_, .lit (.bool true) :: ds, [], [] ++ p ++ [], ?_, ?_⟩⟩
  · rw [hres, hrt]; exact hone _ _ _
  · rw [hargs]; exact hall _ (fun x hx => by simpa using hlt x (by simp [hx]))
  · rw [hvars, hv]; rfl
  · rw [hrt]
    intro j t r h1 h2
    have hj : j = 0 := by
      have := (Array.getElem?_eq_some_iff.1 h1).1
      simpa using this
    subst hj
    simp at h1
    simp [Value.resultList] at h2
    subst h1; subst h2
    simp [Value.okWide, htb, Cell.okWide, Cell.ok]
  · rw [hrt, hv]
    refine ⟨[] ++ p, [], trodAll_append (hall _ (fun _ _ => rfl)) (hone _ _ _), rfl, rfl, ?_, ?_⟩
    · intro b off hx
      rw [hb.frozen (p := ⟨b, off, none⟩) (hlt (.cell b off) (by simpa using hx))]
      exact hfz b off (by simpa using hx)
    · intro ha
      have := hnd ha
      simpa using this
  · intro x hx _
    simpa using hx
end

end Go.Proofs.Ytldagbcceefcdaa

/- part Bridge2 -/
/- From open arguments to a clue with a code, and to two lists. No program in sight. -/
namespace Go.Proofs.Ytldagbcceefcdaa
set_option linter.unusedVariables false
set_option linter.unusedSimpArgs false
open Go.ChangeShapes Go.WideShapes Go.ChangeAt Go.RowKit Go.Deep Go.Joins

section
variable {H : Type} {enc : TypeId × Value → H} {P : Program} {w : World} {base : Nat}
theorem read_trial {t e : TypeId} {f0 f1 : Field} {fuel : Nat} {cs : List Value} {x : DataW H × List MemPlace} (hs : P.underlying t = some (.struct #[f0, f1]))
    (ho : [f0.offset, f1.offset] = [0, 7]) (hc : [P.cellsOf f0.type, P.cellsOf f1.type] = [7, 1]) (hC : P.cellsOf t = 8)
    (hclue : ∀ (fuel : Nat) (cs : List Value) (x : DataW H × List MemPlace), DataW.trod enc P w base (fun _ => true) true fuel f0.type cs = some x → ∃ c : Clue × Value, cs = clCells c.1 c.2 ∧ SlI w c.2 c.1.g)
    (h1 : P.underlying f1.type = some (.slice e)) (he : P.underlying e = some (.int .i64)) (hce : P.cellsOf e = 1)
    (h : DataW.trod enc P w base (fun _ => true) true fuel t cs = some x) : ∃ (c : Clue × Value) (xs : List Int) (xv : Value), cs = clCells c.1 c.2 ++ [xv] ∧ SlI w c.2 c.1.g ∧ SlI w xv xs := by
  obtain ⟨xs, n, _, _, hl, hlen, hf⟩ := DataW.trod_struct hs h
  rw [hC] at hl
  simp only [List.cons.injEq, and_true] at ho hc
  obtain ⟨o0, o1⟩ := ho
  obtain ⟨k0, k1⟩ := hc
  match cs, hl with
  | [c0, c1, c2, c3, c4, c5, c6, c7], _ =>
    match xs, hlen with
    | [y0, y1], _ =>
      have g0 := hf 0 f0 rfl
      have g1 := hf 1 f1 rfl
      rw [o0, k0] at g0
      rw [o1, k1] at g1
      simp at g0 g1
      obtain ⟨c, e0, r0⟩ := hclue _ _ _ g0
      obtain ⟨zs, e1⟩ := read_ints h1 he hce g1
      exact ⟨c, zs, c7, by rw [← e0]; rfl, r0, e1⟩
theorem read_pair {t e : TypeId} {f0 f1 : Field} {fuel : Nat} {cs : List Value} {x : DataW H × List MemPlace} (hs : P.underlying t = some (.struct #[f0, f1]))
    (ho : [f0.offset, f1.offset] = [0, 1]) (hc : [P.cellsOf f0.type, P.cellsOf f1.type] = [1, 1]) (hC : P.cellsOf t = 2)
    (h0 : P.underlying f0.type = some (.slice e)) (h1 : P.underlying f1.type = some (.slice e)) (he : P.underlying e = some (.int .i64)) (hce : P.cellsOf e = 1)
    (h : DataW.trod enc P w base (fun _ => true) true fuel t cs = some x) : ∃ (xs ys : List Int) (xv yv : Value), cs = [xv, yv] ∧ SlI w xv xs ∧ SlI w yv ys := by
  obtain ⟨xs, n, _, _, hl, hlen, hf⟩ := DataW.trod_struct hs h
  rw [hC] at hl
  simp only [List.cons.injEq, and_true] at ho hc
  obtain ⟨o0, o1⟩ := ho
  obtain ⟨k0, k1⟩ := hc
  match cs, hl with
  | [c0, c1], _ =>
    match xs, hlen with
    | [y0, y1], _ =>
      have g0 := hf 0 f0 rfl
      have g1 := hf 1 f1 rfl
      rw [o0, k0] at g0
      rw [o1, k1] at g1
      simp at g0 g1
      obtain ⟨z0, e0⟩ := read_ints h0 he hce g0
      obtain ⟨z1, e1⟩ := read_ints h1 he hce g1
      exact ⟨z0, z1, c0, c1, rfl, e0, e1⟩
end
end Go.Proofs.Ytldagbcceefcdaa

