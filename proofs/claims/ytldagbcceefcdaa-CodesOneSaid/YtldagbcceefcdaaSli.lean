/- Slices: read, made, grown. No program in sight. -/
import Derived.Test.YtldagbcceefcdaaMem
namespace Go.Proofs.Ytldagbcceefcdaa
set_option linter.unusedVariables false
set_option linter.unusedSimpArgs false
open Go.RowKit

def slb : Value → Nat
  | .slice (some a) _ _ => a.block
  | _ => 0
def slo : Value → Nat
  | .slice (some a) _ _ => a.off
  | _ => 0
/-- A slice's cell. -/
def sla (v : Value) (m : Nat) : Addr := ⟨slb v, slo v + m, none⟩

/-- v is a slice of n elements of k cells each; its cells hold flat. -/
def SlC (u : World) (v : Value) (n k : Nat) (flat : List Value) : Prop :=
  flat.length = n * k ∧ ∃ p cap, v = .slice p n cap ∧ (n ≤ cap ∧ cap ≤ 9223372036854775807) ∧
    (n = 0 ∨ ∃ b o, p = some ⟨b, o, none⟩ ∧ ∀ m x, flat[m]? = some x → u.cell? ⟨b, o + m, none⟩ = some x)

theorem SlC.cell {u : World} {v : Value} {n k : Nat} {flat : List Value} (h : SlC u v n k flat) {m : Nat} {x : Value} (hm : flat[m]? = some x) : u.cell? (sla v m) = some x := by
  obtain ⟨hl, p, cap, rfl, _, rfl | ⟨b, o, rfl, hc⟩⟩ := h
  · have : flat = [] := List.eq_nil_of_length_eq_zero (by omega)
    subst this; simp at hm
  · exact hc m x hm

theorem SlC.keep {u u' : World} {v : Value} {n k : Nat} {flat : List Value} (h : SlC u v n k flat) (hk : ∀ a x, u.cell? a = some x → u'.cell? a = some x) : SlC u' v n k flat := by
  obtain ⟨hl, p, cap, rfl, hcap, h⟩ := h
  refine ⟨hl, p, cap, rfl, hcap, ?_⟩
  rcases h with h | ⟨b, o, rfl, hc⟩
  · exact .inl h
  · exact .inr ⟨b, o, rfl, fun m x hm => hk _ _ (hc m x hm)⟩

theorem cell_below {B : Nat} {w u : World} (h : Below B w u) (hB : w.heap.size ≤ B) {a : Addr} {x : Value} (hc : w.cell? a = some x) : u.cell? a = some x := by
  have := World.block_lt_of_cell? w a hc
  rw [h.cell (p := a) (by omega)]; exact hc

theorem SlC.ext {w u : World} {v : Value} {n k : Nat} {flat : List Value} (h : SlC w v n k flat) (hb : Below w.heap.size w u) : SlC u v n k flat :=
  h.keep fun _ _ hc => cell_below hb (Nat.le_refl _) hc

/-- What was readable where the walk began is readable. -/
theorem SlC.st {w0 u : World} {L : List SA} {v : Value} {n k : Nat} {flat : List Value} (h : SlC w0 v n k flat) (hu : St w0.heap.size w0 L u) : SlC u v n k flat := h.ext hu.below

theorem SlC.le {u : World} {v : Value} {n k : Nat} {flat : List Value} (h : SlC u v n k flat) : n ≤ 9223372036854775807 := by
  obtain ⟨_, p, cap, _, hc, _⟩ := h
  omega
theorem SlC.len {u : World} {v : Value} {n k : Nat} {flat : List Value} (h : SlC u v n k flat) : flat.length = n * k := h.1

/-- A slice of the call's own. -/
def osl (e : TypeId) (size : Nat) (v : Value) (n : Nat) (xs : List Value) : SA where
  h S u := (∀ k, S k ↔ v.ownBlock = some k) ∧ u.ownsRow 0 e size v n xs
  loc S u u' h hk := by
    obtain ⟨h0, h1, h2⟩ := h
    refine ⟨h0, h1, ?_⟩
    rcases h2 with h2 | ⟨b, cap, cur, rfl, hb, hg, r⟩
    · exact .inl h2
    · exact .inr ⟨b, cap, cur, rfl, hb, hk b ((h0 b).2 rfl) _ hg, r⟩
  dom S u k h hS := (h.2.lt k ((h.1 k).1 hS)).2

theorem ownsRow_SlC {u : World} {base : Nat} {e : TypeId} {size : Nat} {v : Value} {n : Nat} {xs : List Value} (h : u.ownsRow base e size v n xs) : SlC u v n size xs := by
  refine ⟨h.1, ?_⟩
  rcases h.2 with ⟨rfl, rfl⟩ | ⟨b, cap, cur, rfl, hb, hg, hn, hm, hs, ht⟩
  · exact ⟨none, 0, rfl, ⟨Nat.le_refl _, by omega⟩, .inl rfl⟩
  · refine ⟨_, cap, rfl, ⟨hn, hm⟩, .inr ⟨b, 0, rfl, fun m x hx => ?_⟩⟩
    rw [cell_of_row u b _ cur e (0, 0) hg, ← Array.getElem?_toList]
    rw [← ht, List.getElem?_take] at hx
    split at hx
    · rw [Nat.zero_add]; exact hx
    · simp at hx

section
variable {P : Program} {ro : Option Nat} {n0 : Nat} {w0 : World} {ds : List Deferred} {ops : Array Oper} {Q : Exit → Act → World → Prop} {L : List SA}
  {rest : List Oper} {l : List Value} {d : Option Tmp} {ty : TypeId} {ps : String} {af : Array Edge} {g : Option (Nat × Bool)} {C : World → Prop}

theorem osl_SlC {e : TypeId} {size : Nat} {v : Value} {n : Nat} {xs : List Value} {j : Nat} {u : World} (hu : St n0 w0 L u) (hj : L[j]? = some (osl e size v n xs)) : SlC u v n size xs := by
  obtain ⟨T, _, _, h⟩ := hu.get hj
  exact ownsRow_SlC h

theorem det_lenS {T e : TypeId} {a b : Nat} {x : Operand} {v : Value} {w : World} {n k : Nat} {flat : List Value} (hT : sl P T = some (e, a, b)) (hx : evo l x = some (v)) (hs : SlC w v n k flat) :
    Det P C ⟨d, .call ⟨.builtin .len, #[x], #[T]⟩, ty, ps, af, g⟩ l (.int .i64 n) := by
  obtain ⟨i, hu, _⟩ := sl_spec hT
  obtain ⟨_, p, cap, rfl, _⟩ := hs
  exact det_len hu hx
theorem det_lenO {T e e' : TypeId} {a b size j : Nat} {x : Operand} {v : Value} {n : Nat} {xs : List Value} (hT : sl P T = some (e, a, b)) (hx : evo l x = some v) (hj : L[j]? = some (osl e' size v n xs)) :
    Det P (St n0 w0 L) ⟨d, .call ⟨.builtin .len, #[x], #[T]⟩, ty, ps, af, g⟩ l (.int .i64 n) := fun u hu => by
  exact det_lenS (C := St n0 w0 L) hT hx (osl_SlC hu hj) u hu
theorem det_lenV {T e : TypeId} {a b : Nat} {x : Operand} {v : Value} {n : Nat} (hT : sl P T = some (e, a, b)) (hx : evo l x = some (v)) (hs : ∃ p c, v = .slice p n c) :
    Det P C ⟨d, .call ⟨.builtin .len, #[x], #[T]⟩, ty, ps, af, g⟩ l (.int .i64 n) := by
  obtain ⟨i, hu, _⟩ := sl_spec hT
  obtain ⟨p, cap, rfl⟩ := hs
  exact det_len hu hx

theorem det_indexS {T e : TypeId} {k by_ : Nat} {x y : Operand} {v : Value} {i : Int} {w : World} {n k' : Nat} {flat : List Value} (hT : sl P T = some (e, k, by_)) (hx : evo l x = some (v)) (hy : evo l y = some (.int .i64 i))
    (hs : SlC w v n k' flat) (h0 : 0 ≤ i) (h1 : i < n) : Det P C ⟨d, .indexAddr T x y, ty, ps, af, g⟩ l (.pointer (some (sla v (i.toNat * k)))) := fun u _ => by
  (replace hx := ev_of hx; replace hy := ev_of hy)
  obtain ⟨inf, hu, hi, hk, _⟩ := sl_spec hT
  obtain ⟨_, p, cap, rfl, _, rfl | ⟨b, o, rfl, _⟩⟩ := hs
  · omega
  · simp [execOp, DetUpon, hx, hy, Instr.indexAt, asIntOf, run_underlying hu, h0, h1, sizeOf, typeInfo, hi, hk, sla, slb, slo, addr_add]
theorem det_indexA {T : TypeId} {k n b o : Nat} {x y : Operand} {i : Int} (hT : arr P T = some (n, k)) (hx : evo l x = some (.pointer (some ⟨b, o, none⟩))) (hy : evo l y = some (.int .i64 i))
    (h0 : 0 ≤ i) (h1 : i < n) : Det P C ⟨d, .indexAddr T x y, ty, ps, af, g⟩ l (.pointer (some ⟨b, o + i.toNat * k, none⟩)) := fun u _ => by
  (replace hx := ev_of hx; replace hy := ev_of hy)
  obtain ⟨e, inf, hu, hi, hk⟩ := arr_spec hT
  simp [execOp, DetUpon, hx, hy, Instr.indexAt, asIntOf, run_underlying hu, h0, h1, sizeOf, typeInfo, hi, hk, addr_add, Instr.sureAddr]

theorem det_fieldAddrS {T : TypeId} {x : Operand} {f o m : Nat} {v : Value} (hx : evo l x = some (.pointer (some (sla v o)))) (hf : fo P T f = some m) :
    Det P C ⟨d, .fieldAddr T x f, ty, ps, af, g⟩ l (.pointer (some (sla v (o + m)))) := by
  have := det_fieldAddr (P := P) (C := C) (d := d) (ty := ty) (ps := ps) (af := af) (g := g) (b := slb v) (o := slo v + o) hx hf
  unfold sla
  rw [← Nat.add_assoc]
  exact this

/-- An element of one cell. -/
theorem det_loadS {T : TypeId} {x : Operand} {v y : Value} {m n k z : Nat} {flat : List Value} (hx : evo l x = some (.pointer (some (sla v m)))) (hs : ∀ u, C u → SlC u v n k flat) (hm : flat[m]? = some y) (hT : tk P T = some (false, z)) :
    Det P C ⟨d, .load T x, ty, ps, af, g⟩ l y := det_load hT hx fun u hu => (hs u hu).cell hm
/-- An element that is an aggregate. -/
theorem det_loadSN {T : TypeId} {x : Operand} {v : Value} {m n k : Nat} {flat cs : List Value} (hx : evo l x = some (.pointer (some (sla v m)))) (hs : ∀ u, C u → SlC u v n k flat) (hm : ∀ j y, cs[j]? = some y → flat[m + j]? = some y)
    (hT : tk P T = some (true, cs.length)) : Det P C ⟨d, .load T x, ty, ps, af, g⟩ l (.agg cs.toArray) := by
  refine det_loadN hT hx fun u hu j y hy => ?_
  have := (hs u hu).cell (hm j y hy)
  unfold sla at this
  rw [← Nat.add_assoc] at this
  exact this

/-! ### Slices that the call makes -/
theorem cellsD (n s : Nat) (c : List Value) (hc : c.length = s) : (Array.range (n * s)).map (c.toArray[· % c.toArray.size]!) = ((List.replicate n c).flatten).toArray := by
  apply Array.ext'
  simp only [Array.toList_map, Array.toList_range, List.size_toArray, hc]
  induction n with
  | zero => simp
  | succ n ih =>
    rw [Nat.succ_mul, List.range_add, List.map_append, ih, List.replicate_succ', List.flatten_append]
    congr 1
    simp only [List.map_map, List.flatten_cons, List.flatten_nil, List.append_nil]
    apply List.ext_getElem?
    intro i
    simp only [List.getElem?_map]
    by_cases hi : i < s
    · rw [List.getElem?_range hi]
      have h1 : (n * s + i) % s = i := by rw [Nat.add_comm, Nat.add_mul_mod_self_right, Nat.mod_eq_of_lt hi]
      simp only [Option.map_some, Function.comp_apply, h1]
      simp [hc, hi]
    · rw [List.getElem?_eq_none (by simpa using Nat.le_of_not_lt hi), List.getElem?_eq_none (by omega)]
      rfl

/-- The cells of a slice that is built of parts of one cell each, all of them given. -/
theorem fill_one : ∀ (vs : List Value) (i : Nat) (pre : List Value), i = pre.length → (∀ v ∈ vs, v.oneCell' = true) →
    ∀ z : List Value, z.length = vs.length → Instr.fill (fun i => some (i * 1, 1)) (pre ++ z).toArray ((vs.zipIdx i).map fun (v, j) => (j, v)) = some (pre ++ vs).toArray
  | [], _, _, _, _, z, hz => by
    have : z = [] := List.eq_nil_of_length_eq_zero (by simpa using hz)
    subst this; simp [Instr.fill]
  | v :: vs, i, pre, hi, h1, z, hz => by
    cases z with
    | nil => simp at hz
    | cons y z =>
      have hv : v.cells = #[v] := by have := h1 v (by simp); cases v <;> simp_all [Value.cells, Value.oneCell']
      simp only [List.zipIdx_cons, List.map_cons, Instr.fill, hv]
      rw [if_neg (by simp; omega)]
      have := fill_one vs (i + 1) (pre ++ [v]) (by simp [hi]) (fun x hx => h1 x (by simp [hx])) z (by simpa using hz)
      simp at this
      subst hi
      simpa using this

theorem WS.makeSlice {T e z : TypeId} {size by_ : Nat} {x y : Operand} {i : Nat} {n c : Int} {zc : List Value} (hT : sl P T = some (e, size, by_)) (hx : evo l x = some (.int .i64 n)) (hy : evo l y = some (.int .i64 c)) (hz : zv P e = some zc) (hzl : zc.length = size)
    (h0 : 0 ≤ n) (hnc : n = c) (hb : (by_ : Int) * n ≤ 281474976710656) (hm : n ≤ 9223372036854775807)
    {l' : Value → List Value} (hl : ∀ v, lset l i v = some (l' v)) (k : ∀ v, WS P ro n0 w0 ds ops Q (osl e size v n.toNat (List.replicate n.toNat zc).flatten :: L) rest (l' v)) :
    WS P ro n0 w0 ds ops Q L (⟨some i, .makeSlice T x y, ty, ps, af, none⟩ :: rest) l := by
  (replace hx := ev_of hx; replace hy := ev_of hy)
  subst hnc
  refine WS.world rfl rfl fun u hu => ?_
  obtain ⟨inf, hu1, hi, hs, hby⟩ := sl_spec hT
  unfold zv at hz
  rw [hi] at hz
  cases hz2 : inf.zero with
  | none => simp [hz2] at hz
  | some zz =>
    simp [hz2] at hz
    have hr := run_make (P := P) u T e inf zz hu1 hi hz2 .i64 .i64 n n h0 (Int.le_refl _) (by rw [hby]; exact hb) hm
    refine ⟨_, _, by simp [execOp, hx, hy, hr]; exact ⟨rfl, rfl⟩, ?_⟩
    rw [put_some, lset_of (hl _)]
    have hcells : madeCells zz.cells (n.toNat * inf.size) = ((List.replicate n.toNat zc).flatten).toArray := by
      unfold madeCells
      rw [hs]
      have h2 := cellsD n.toNat size zc hzl
      rw [← hz] at h2 ⊢
      simpa using h2
    have hlen : ((List.replicate n.toNat zc).flatten).length = n.toNat * size := by simp [List.length_flatten, hzl]
    refine k (.slice (some ⟨u.heap.size, 0, none⟩) n.toNat n.toNat) _ (hu.cons (T := fun k => k = u.heap.size) ((Below.refl _ u).alloc (Nat.le_refl _) _) ⟨?_, hlen, .inr ⟨u.heap.size, n.toNat, _, rfl, Nat.zero_le _, World.alloc_heap_new u _, Nat.le_refl _, ?_, ?_, ?_⟩⟩ (fun k hk => by omega))
    · intro k; simp [Value.ownBlock]; exact eq_comm
    · simp only [maxLen]; omega
    · rw [hcells]; simp [List.length_flatten, hzl]
    · rw [hcells]; simp only [List.toList_toArray]; exact List.take_of_length_le (by rw [hlen]; exact Nat.le_refl _)

/-- '[]T{a, b, ..}', and the slice that '...' makes: elements of one cell each. -/
theorem WS.buildSlice1 {T e : TypeId} {by_ i n : Nat} {pl : List (Nat × Operand)} {vs zc : List Value} (hT : sl P T = some (e, 1, by_)) (hz : zv P e = some zc)
    (hp : (pl.map fun (j, x) => (j, ev l x)) = (vs.zipIdx).map fun (v, j) => (j, v)) (hn : vs.length = n) (hn2 : n ≤ 16777216) (h1 : ∀ v ∈ vs, v.oneCell' = true)
    {l' : Value → List Value} (hl : ∀ v, lset l i v = some (l' v)) (k : ∀ v, WS P ro n0 w0 ds ops Q (osl e 1 v n vs :: L) rest (l' v)) :
    WS P ro n0 w0 ds ops Q L (⟨some i, .buildSlice T n pl.toArray, ty, ps, af, none⟩ :: rest) l := by
  subst hn
  refine WS.world rfl rfl fun u hu => ?_
  obtain ⟨inf, hu1, hi, hs, hby⟩ := sl_spec hT
  unfold zv at hz
  rw [hi] at hz
  cases hz2 : inf.zero with
  | none => simp [hz2] at hz
  | some zz =>
    simp [hz2] at hz
    refine ⟨.slice (some ⟨u.heap.size, 0, none⟩) vs.length vs.length, u.alloc (.cells vs.toArray e), ?_, ?_⟩
    · have hf : ∀ A : Array Value, A.size = vs.length → Instr.fill (fun i => some (i, 1)) A (List.map (fun x => (x.fst, ev l x.snd)) pl) = some vs.toArray := fun A hA => by
        have := fill_one vs 0 [] rfl h1 A.toList (by simpa using hA)
        rw [← hp] at this
        simpa using this
      have hlim : ¬ (16777216 < vs.length) := by omega
      by_cases h0 : vs.length = 0
      · have h2 := hf (Array.map (fun _ => (default : Value)) (Array.range 0)) (by simp [h0])
        simp [execOp, Instr.buildSlice, run_underlying hu1, sizeOf, typeInfo, hi, hs, h0, newRow, h2]
      · have h2 := hf ((Array.range vs.length).map (zz.cells[· % zz.cells.size]!)) (by simp)
        simp [execOp, Instr.buildSlice, run_underlying hu1, sizeOf, typeInfo, hi, hs, h0, newRow, hlim, zeroValue, hz2, h2]
    · rw [put_some, lset_of (hl _)]
      refine k _ _ (hu.cons (T := fun k => k = u.heap.size) ((Below.refl _ u).alloc (Nat.le_refl _) _) ⟨?_, by simp, .inr ⟨u.heap.size, vs.length, _, rfl, Nat.zero_le _, World.alloc_heap_new u _, Nat.le_refl _, ?_, ?_, ?_⟩⟩ (fun k hk => by omega))
      · intro k; simp [Value.ownBlock]; exact eq_comm
      · simp only [maxLen]; omega
      · simp
      · simp

/-- append onto a slice of the call's own. -/
theorem WS.append {T e : TypeId} {size by_ i j n m : Nat} {x y : Operand} {v z : Value} {xs news zc : List Value} (hT : sl P T = some (e, size, by_)) (hz : zv P e = some zc) (hzl : zc.length = size) (hs0 : 0 < size)
    (hx : evo l x = some (v)) (hj : L[j]? = some (osl e size v n xs)) (hy : evo l y = some (z)) (hnews : ∀ u, St n0 w0 L u → SlC u z m size news) (h1 : ∀ a ∈ news, a.oneCell' = true)
    (hm : n + m ≤ 9223372036854775807) (hb : (n + m) * by_ ≤ 140737488355328)
    {l' : Value → List Value} (hl : ∀ v, lset l i v = some (l' v)) {L' : Value → List SA} (hL : ∀ v', lset L j (osl e size v' (n + m) (xs ++ news)) = some (L' v')) (k : ∀ v', WS P ro n0 w0 ds ops Q (L' v') rest (l' v')) :
    WS P ro n0 w0 ds ops Q L (⟨some i, .call ⟨.builtin .append, #[x, y], #[T, T]⟩, ty, ps, af, none⟩ :: rest) l := by
  (replace hx := ev_of hx; replace hy := ev_of hy)
  refine WS.world rfl rfl fun u hu => ?_
  obtain ⟨inf, hu1, hi, hs, hby⟩ := sl_spec hT
  unfold zv at hz
  rw [hi] at hz
  cases hz2 : inf.zero with
  | none => simp [hz2] at hz
  | some zz =>
    simp [hz2] at hz
    obtain ⟨S, hS, ⟨hS1, hown⟩, hupd⟩ := hu.upd hj
    have hml : n + m ≤ maxLen := hm
    obtain ⟨hnl, p, cap, rfl, hcap, hz3⟩ := hnews u hu
    have fin : ∀ v' u', (Builtin.append_ #[T, T] ty #[v, .slice p m cap]).run P u = .ok v' u' → u'.ownsRow 0 e size v' (n + m) (xs ++ news) → u.grownBy u' v.ownBlock → (∀ b, v'.ownBlock = some b → n0 ≤ b ∧ (v.ownBlock = some b ∨ u.heap.size ≤ b)) →
        ∃ v u', (execOp (ev l) ⟨some i, .call ⟨.builtin .append, #[x, y], #[T, T]⟩, ty, ps, af, none⟩).run P u = .ok (.value v) u' ∧ wpListIn (FW ro) 0 P ops Q rest ((Act.mk l.toArray ds).put (some i) v) u' := by
      intro v' u' hr h2 h3 h4
      refine ⟨v', u', by simp [execOp, resolve, invoke, builtin, hx, hy, hr], ?_⟩
      rw [put_some, lset_of (hl _)]
      refine k v' u' (lset_of (hL v') ▸ hupd u' _ (fun b => v'.ownBlock = some b) ?_ ?_ ⟨fun b => Iff.rfl, h2⟩ ?_)
      · exact ⟨h3.os, h3.tape, h3.output, h3.size, fun b hb => h3.block b (by have := hu.size; omega) fun e => by have := hS b ((hS1 b).2 e.symm); omega⟩
      · intro b hb o hc
        exact (h3.block b hb.2.1 fun e => hb.2.2 ((hS1 b).2 e.symm)).trans hc
      · intro b hb
        obtain ⟨ha, hb⟩ := h4 b hb
        exact ⟨ha, hb.imp (fun h => (hS1 b).2 h) id⟩
    have hle := hu.size
    replace hz3 : (p = none ∧ m = 0) ∨ ∃ a, p = some a ∧ ∀ j' x, news[j']? = some x → u.cell? (a.add j') = some x := by
      rcases hz3 with rfl | ⟨b, o, rfl, hc⟩
      · have hn0 : news = [] := List.eq_nil_of_length_eq_zero (by omega)
        subst hn0
        cases p with
        | none => exact .inl ⟨rfl, rfl⟩
        | some a => exact .inr ⟨a, rfl, by simp⟩
      · exact .inr ⟨_, rfl, fun j' x hx => by rw [addr_add]; exact hc j' x hx⟩
    rcases hz3 with ⟨rfl, rfl⟩ | ⟨a, rfl, hc⟩
    · -- nothing to append
      have hn0 : news = [] := List.eq_nil_of_length_eq_zero (by omega)
      subst hn0
      refine fin v u ?_ (by simpa using hown) ⟨rfl, rfl, rfl, Nat.le_refl _, fun _ _ _ => rfl⟩ (fun b hb => ⟨hS b ((hS1 b).2 hb), .inl hb⟩)
      rcases hown.2 with ⟨rfl, rfl⟩ | ⟨b, cap', cur, rfl, hb0, hg, hn, _⟩
      · simp [Builtin.append_, run_underlying hu1, sizeOf, typeInfo, hi, Builtin.lenOf, Builtin.firstCells]
      · simp [Builtin.append_, run_underlying hu1, sizeOf, typeInfo, hi, Builtin.lenOf, Builtin.firstCells, hn, storeCells]
    · obtain ⟨v', u', hr, h2, h3, h4⟩ := run_append_own (P := P) u 0 T ty e inf zz size by_ hu1 hi hz2 hs hby (by rw [← hzl, ← hz]; simp) hs0 v n xs hown a m cap news hnl hc h1 hml hb (Nat.zero_le _)
      refine fin v' u' hr h2 h3 fun b' hb' => ?_
      -- the row that is handed back is the old one, or new
      by_cases hlt : b' < u.heap.size
      · by_cases hv : v.ownBlock = some b'
        · exact ⟨hS b' ((hS1 b').2 hv), .inl hv⟩
        · exfalso
          rcases hown.2 with ⟨rfl, rfl⟩ | ⟨g, cap', cur, rfl, _, hg, hnc, hcm, hcs, htake⟩
          · have hx0 : xs = [] := List.eq_nil_of_length_eq_zero (by simpa using hown.1)
            subst hx0
            obtain ⟨v2, u2, hr2, h22, h23, _⟩ := run_append_own (P := P) u u.heap.size T ty e inf zz size by_ hu1 hi hz2 hs hby (by rw [← hzl, ← hz]; simp) hs0 _ 0 [] (World.ownsRow_nil u u.heap.size e size) a m cap news hnl hc h1 hml hb (Nat.le_refl _)
            rw [hr] at hr2
            injection hr2 with e1 e2
            subst e1
            have := (h22.lt b' hb').1
            omega
          · have hnews' := hc
            by_cases hroom : n + m ≤ cap'
            · have hr2 := run_append_room (P := P) u T ty e inf hu1 hi g n cap' cur hg a m cap news (by rw [hs]; exact hnl) hnews' h1 hroom (by rw [hnl, hcs, hs, ← Nat.add_mul]; exact Nat.mul_le_mul_right _ hroom)
              rw [hr] at hr2
              injection hr2 with e1 e2
              subst e1
              exact hv hb'
            · have holds : ∀ j u', xs[j]? = some u' → u.cell? ((⟨g, 0, none⟩ : Addr).add j) = some u' := hown.cells (g := g) rfl
              have hr2 := run_append_grow (P := P) u T ty e inf zz hu1 hi hz2 ⟨g, 0, none⟩ n cap' xs (by rw [hs]; exact hown.1) holds a m cap news (by rw [hs]; exact hnl) hnews' (by omega) (by omega) (growslice_fits (by omega) (by rw [hby]; exact hb))
              rw [hr] at hr2
              injection hr2 with e1 e2
              subst e1
              simp [Value.ownBlock] at hb'
              omega
      · exact ⟨by omega, .inr (by omega)⟩

end

end Go.Proofs.Ytldagbcceefcdaa
