/- Slices of a call's own: loads, places, stores. -/
import Derived.Test.YtldagbcceefcdaaIter
import Derived.RangeFuncBound
namespace Go.Proofs.Ytldagbcceefcdaa
set_option linter.unusedVariables false
set_option linter.unusedSimpArgs false
open Go.RowKit Go.Proofs

def ints (xs : List Int) : List Value := xs.map (Value.int .i64)
/-- A slice of ints of the call's own. -/
def oints (e : TypeId) (v : Value) (xs : List Int) : SA := osl e 1 v xs.length (ints xs)

section
variable {P : Program} {ro : Option Nat} {n0 : Nat} {w0 : World} {ds : List Deferred} {ops : Array Oper} {Q : Exit → Act → World → Prop} {L : List SA}
  {rest : List Oper} {l : List Value} {d : Option Tmp} {ty : TypeId} {ps : String} {af : Array Edge} {g : Option (Nat × Bool)} {C : World → Prop}
theorem det_idxO {T e e' : TypeId} {k by_ j : Nat} {x y : Operand} {v : Value} {i : Int} {n : Nat} {xs : List Value} (hT : sl P T = some (e, k, by_)) (hx : evo l x = some v) (hy : evo l y = some (.int .i64 i))
    (hj : L[j]? = some (osl e' k v n xs)) (h0 : 0 ≤ i) (h1 : i < n) : Det P (St n0 w0 L) ⟨d, .indexAddr T x y, ty, ps, af, g⟩ l (.pointer (some (sla v (i.toNat * k)))) :=
  fun u hu => det_indexS (C := St n0 w0 L) hT hx hy (osl_SlC hu hj) h0 h1 u hu
theorem det_idxOI {T e e' : TypeId} {by_ j : Nat} {x y : Operand} {v : Value} {i : Int} {xs : List Int} (hT : sl P T = some (e, 1, by_)) (hx : evo l x = some v) (hy : evo l y = some (.int .i64 i))
    (hj : L[j]? = some (oints e' v xs)) (h0 : 0 ≤ i) (h1 : i < xs.length) : Det P (St n0 w0 L) ⟨d, .indexAddr T x y, ty, ps, af, g⟩ l (.pointer (some (sla v i.toNat))) := by
  have := det_idxO (n0 := n0) (w0 := w0) (d := d) (ty := ty) (ps := ps) (af := af) (g := g) hT hx hy hj h0 h1
  rwa [Nat.mul_one] at this
theorem oints_SlI {e : TypeId} {v : Value} {xs : List Int} {j : Nat} {u : World} (hu : St n0 w0 L u) (hj : L[j]? = some (oints e v xs)) : SlI u v xs := osl_SlC hu hj
theorem det_ldO {T e : TypeId} {k m z j n : Nat} {x : Operand} {v y : Value} {xs : List Value} (hx : evo l x = some (.pointer (some (sla v m)))) (hj : L[j]? = some (osl e k v n xs)) (hm : xs[m]? = some y) (hT : tk P T = some (false, z)) :
    Det P (St n0 w0 L) ⟨d, .load T x, ty, ps, af, g⟩ l y := det_loadS hx (fun _ hu => osl_SlC hu hj) hm hT
theorem det_ldOI {T e : TypeId} {z j : Nat} {x : Operand} {v : Value} {i : Int} {xs : List Int} (hx : evo l x = some (.pointer (some (sla v i.toNat)))) (hj : L[j]? = some (oints e v xs)) (h : 0 ≤ i ∧ i < xs.length) (hT : tk P T = some (false, z)) :
    Det P (St n0 w0 L) ⟨d, .load T x, ty, ps, af, g⟩ l (.int .i64 (nth xs i)) := det_ldO hx hj (nth_map h) hT
theorem det_lenOI {T e e' : TypeId} {a b j : Nat} {x : Operand} {v : Value} {xs : List Int} (hT : sl P T = some (e, a, b)) (hx : evo l x = some v) (hj : L[j]? = some (oints e' v xs)) :
    Det P (St n0 w0 L) ⟨d, .call ⟨.builtin .len, #[x], #[T]⟩, ty, ps, af, g⟩ l (.int .i64 xs.length) := det_lenO hT hx hj

theorem yield_lent {u : World} {lp : Nat} {v : Value} {C' Cx' B F : SA}
    (h : YieldAt (FW none) 0 P lp #[v] u fun e u' => (e = .returned (.bool true) ∧ St n0 w0 [C', B, F] u') ∨ (e = .returned (.bool false) ∧ St n0 w0 [Cx', B, F] u')) :
    YieldAt (FW none) 0 P lp #[v] u fun e u' => ∃ b, e = .returned (.bool b) ∧ St n0 w0 [B, cond b C' Cx', F] u' := by
  refine h.mono ?_
  rintro e u' (⟨rfl, h⟩ | ⟨rfl, h⟩)
  · exact ⟨true, rfl, h.perm (.swap _ _ _)⟩
  · exact ⟨false, rfl, h.perm (.swap _ _ _)⟩
theorem lset_get {α : Type} : ∀ {l : List α} {n : Nat} {v : α} {r : List α}, lset l n v = some r → n < l.length → r[n]? = some v := by
  intro l n v r h hn
  have := lset_of h
  subst this
  simp [hn]
theorem CS.perm {L' : List SA} {c : Code} (hp : L.Perm L') (k : CS P ro n0 w0 ds c Q L' l) : CS P ro n0 w0 ds c Q L l := fun u hu => k u (hu.perm hp)
section
variable {X : Type} {gf : FuncId} {lb : List Value} {A : List SA} {lend : Value → X → SA} {all : List X} {x : Operand} {t t2 id : Tmp} {body : Code}
/-- A loop whose round begins with no assignment. -/
theorem CS.rangeS (hg : evo l x = some (.func (.func gf) #[] lb.toArray)) (he : Ent P gf) (hi : Iter P w0 gf lb A lend all)
    (M : List X → List SA) (Mx : Code → List X → List SA) {l0 : Value → List Value} (h0 : ∀ v, lset l t v = some (l0 v))
    (hbody : ∀ (lr : Nat) (pre : List X) (x : X) (post : List X) (v : Value) (F : SA), all = pre ++ x :: post →
      CS P (some lr) w0.heap.size w0 [] body (roundQ w0.heap.size w0 M Mx (lend v x) (pre ++ [x]) F) (lend v x :: (M pre ++ [F])) (l0 v))
    (hdone : ∀ D, QS w0.heap.size w0 (mark D :: ds) Q .normal (recd D (.deferred (some [])) :: (M all ++ A)) l)
    (hstop : ∀ D c pre x post, all = pre ++ x :: post → CS P none w0.heap.size w0 (mark D :: ds) c Q (recd D (.deferred (some [])) :: (Mx c (pre ++ [x]) ++ A)) l) :
    CS P none w0.heap.size w0 ds (.rangeFunc x #[t] .skip body) Q (M [] ++ A) l :=
  CS.rangeFunc hg he hi M Mx h0 (fun _ _ _ _ k => CS.skip k) hbody hdone hstop
/-- A loop whose round begins with one assignment. -/
theorem CS.rangeA {ty2 : TypeId} {ps2 : String} {af2 : Array Edge} (hg : evo l x = some (.func (.func gf) #[] lb.toArray)) (he : Ent P gf) (hi : Iter P w0 gf lb A lend all)
    (M : List X → List SA) (Mx : Code → List X → List SA) {l0 l1 : Value → List Value} (h0 : ∀ v, lset l t v = some (l0 v)) (ht : t < l.length) (h1 : ∀ v, lset (l0 v) t2 v = some (l1 v))
    (hbody : ∀ (lr : Nat) (pre : List X) (x : X) (post : List X) (v : Value) (F : SA), all = pre ++ x :: post →
      CS P (some lr) w0.heap.size w0 [] body (roundQ w0.heap.size w0 M Mx (lend v x) (pre ++ [x]) F) (lend v x :: (M pre ++ [F])) (l1 v))
    (hdone : ∀ D, QS w0.heap.size w0 (mark D :: ds) Q .normal (recd D (.deferred (some [])) :: (M all ++ A)) l)
    (hstop : ∀ D c pre x post, all = pre ++ x :: post → CS P none w0.heap.size w0 (mark D :: ds) c Q (recd D (.deferred (some [])) :: (Mx c (pre ++ [x]) ++ A)) l) :
    CS P none w0.heap.size w0 ds (.rangeFunc x #[t] (.region id #[⟨some t2, .assign (.tmp t), ty2, ps2, af2, none⟩] false) body) Q (M [] ++ A) l :=
  CS.rangeFunc hg he hi M Mx h0 (fun v _ _ _ k => CS.region (os := [_]) (WS.det rfl rfl rfl (det_assign (by
    have := lset_get (h0 v) ht
    simpa [evo] using this)) (h1 v) (WS.done k))) hbody hdone hstop
end
theorem yield_lentS {lp : Nat} {v : Value} {C' C'' Cx' B : SA} {R : List SA}
    (h : ∀ (F : SA) (u : World), St n0 w0 [C', B, F] u → YieldAt (FW none) 0 P lp #[v] u fun e u' => (e = .returned (.bool true) ∧ St n0 w0 [C'', B, F] u') ∨ (e = .returned (.bool false) ∧ St n0 w0 [Cx', B, F] u'))
    {u : World} (hu : St n0 w0 (B :: C' :: R) u) : YieldAt (FW none) 0 P lp #[v] u fun e u' => ∃ b, e = .returned (.bool b) ∧ St n0 w0 (B :: cond b C'' Cx' :: R) u' := by
  have p1 : ∀ {C1 : SA}, (B :: C1 :: R).Perm (R ++ [C1, B]) := (List.Perm.swap _ _ _).trans (List.perm_append_comm (l₁ := [_, _]))
  have p2 : ∀ {C1 : SA}, [star R, C1, B].Perm [C1, B, star R] := List.perm_append_comm (l₁ := [_]) (l₂ := [_, _])
  refine (h (star R) u ((hu.perm p1).pack.perm p2)).mono ?_
  rintro e u' (⟨rfl, h⟩ | ⟨rfl, h⟩)
  · exact ⟨true, rfl, (St.unpack (h.perm p2.symm)).perm p1.symm⟩
  · exact ⟨false, rfl, (St.unpack (h.perm p2.symm)).perm p1.symm⟩
theorem WS.unpack {L1 L2 : List SA} (k : WS P ro n0 w0 ds ops Q (L1 ++ L2) rest l) : WS P ro n0 w0 ds ops Q (star L1 :: L2) rest l := fun u hu => k u hu.unpack
theorem retFs {v : Value} {Ls : List SA} {w u : World} (hu : St w.heap.size w L u) (hp : L.Perm Ls) : RetF w v (star Ls) (.returned v) u := by
  have h := hu.perm hp
  rw [← List.append_nil Ls] at h
  exact retF (j := 0) rfl u h.pack
theorem put_row : ∀ (r z1 pre z2 : List Value) (off j0 : Nat), pre.length = off + j0 → z1.length = r.length →
    (r.zipIdx j0).foldl (fun (cs : Array Value) (x : Value × Nat) => cs.setIfInBounds (off + x.2) x.1) (pre ++ (z1 ++ z2)).toArray = (pre ++ (r ++ z2)).toArray
  | [], z1, pre, z2, off, j0, _, hz => by
    have : z1 = [] := List.eq_nil_of_length_eq_zero (by simpa using hz)
    subst this; simp
  | c :: r, [], pre, z2, off, j0, _, hz => by simp at hz
  | c :: r, y :: z1, pre, z2, off, j0, hp, hz => by
    have ih := put_row r z1 (pre ++ [c]) z2 off (j0 + 1) (by simp; omega) (by simpa using hz)
    have h1 : (pre ++ (y :: z1 ++ z2)).toArray.setIfInBounds (off + j0) c = (pre ++ [c] ++ (z1 ++ z2)).toArray := by
      rw [← hp]
      simp [List.set_append]
    rw [List.zipIdx_cons, List.foldl_cons]
    show List.foldl _ ((pre ++ (y :: z1 ++ z2)).toArray.setIfInBounds (off + j0) c) _ = _
    rw [h1, ih]
    simp
theorem fill_k (k : Nat) : ∀ (rows : List (List Value)) (i : Nat) (pre : List Value), pre.length = i * k → (∀ r ∈ rows, r.length = k) →
    ∀ z : List Value, z.length = rows.length * k → Instr.fill (fun i => some (i * k, k)) (pre ++ z).toArray ((rows.zipIdx i).map fun (r, j) => (j, Value.agg r.toArray)) = some (pre ++ rows.flatten).toArray
  | [], _, _, _, _, z, hz => by
    have : z = [] := List.eq_nil_of_length_eq_zero (by simpa using hz)
    subst this; simp [Instr.fill]
  | r :: rows, i, pre, hp, hr, z, hz => by
    have hrk := hr r (by simp)
    have hzl : z.length = k + rows.length * k := by rw [hz, List.length_cons, Nat.succ_mul, Nat.add_comm]
    have ez : z = z.take k ++ z.drop k := (List.take_append_drop k z).symm
    have hz1 : (z.take k).length = r.length := by simp; omega
    have hv : (Value.agg r.toArray).cells = r.toArray := rfl
    simp only [List.zipIdx_cons, List.map_cons, Instr.fill, hv]
    rw [if_neg (by simp; omega)]
    have h1 := put_row r (z.take k) pre (z.drop k) (i * k) 0 (by omega) hz1
    rw [← ez] at h1
    have h2 : Array.foldl (fun (cs : Array Value) (x : Value × Nat) => cs.setIfInBounds (i * k + x.2) x.1) (pre ++ z).toArray r.toArray.zipIdx = (pre ++ (r ++ z.drop k)).toArray := by
      rw [← h1]; simp
    rw [h2]
    have ih := fill_k k rows (i + 1) (pre ++ r) (by simp [hp, hrk, Nat.succ_mul]) (fun x hx => hr x (by simp [hx])) (z.drop k) (by simp; omega)
    simpa using ih
theorem WS.buildSliceK {T e : TypeId} {by_ i n k : Nat} {pl : List (Nat × Operand)} {rows : List (List Value)} {zc : List Value} (hT : sl P T = some (e, k, by_)) (hz : zv P e = some zc)
    (hp : (pl.map fun (j, x) => (j, ev l x)) = (rows.zipIdx).map fun (r, j) => (j, Value.agg r.toArray)) (hn : rows.length = n) (hn0 : 0 < n * k) (hn2 : n * k ≤ 16777216) (h1 : ∀ r ∈ rows, r.length = k)
    {l' : Value → List Value} (hl : ∀ v, lset l i v = some (l' v)) (kk : ∀ v, WS P ro n0 w0 ds ops Q (osl e k v n rows.flatten :: L) rest (l' v)) :
    WS P ro n0 w0 ds ops Q L (⟨some i, .buildSlice T n pl.toArray, ty, ps, af, none⟩ :: rest) l := by
  subst hn
  refine WS.world rfl rfl fun u hu => ?_
  obtain ⟨inf, hu1, hi, hs, hby⟩ := sl_spec hT
  unfold zv at hz
  rw [hi] at hz
  cases hz2 : inf.zero with
  | none => simp [hz2] at hz
  | some zz =>
    simp [hz2] at hz
    have hfl : rows.flatten.length = rows.length * k := by
      clear hp hn0 hn2 kk hl
      induction rows with
      | nil => simp
      | cons r rows ih => simp only [List.flatten_cons, List.length_append, List.length_cons, ih fun x hx => h1 x (by simp [hx]), h1 r (by simp), Nat.succ_mul]; omega
    refine ⟨.slice (some ⟨u.heap.size, 0, none⟩) rows.length rows.length, u.alloc (.cells rows.flatten.toArray e), ?_, ?_⟩
    · have hf : ∀ A : Array Value, A.size = rows.length * k → Instr.fill (fun i => some (i * k, k)) A (List.map (fun x => (x.fst, ev l x.snd)) pl) = some rows.flatten.toArray := fun A hA => by
        have := fill_k k rows 0 [] (by simp) h1 A.toList (by simpa using hA)
        rw [← hp] at this
        simpa using this
      have hlim : ¬ (16777216 < rows.length * k) := by omega
      have h0 : ¬ (rows.length * k = 0) := by omega
      have h0' : ¬ (rows.length = 0 ∨ k = 0) := by rw [← Nat.mul_eq_zero]; exact h0
      have h2 := hf ((Array.range (rows.length * k)).map (zz.cells[· % zz.cells.size]!)) (by simp)
      have h01 := fun h => h0' (.inl h)
      have h02 := fun h => h0' (.inr h)
      have h03 : rows ≠ [] := fun h => h01 (by simp [h])
      simp [execOp, Instr.buildSlice, run_underlying hu1, sizeOf, typeInfo, hi, hs, h03, h02, newRow, hlim, zeroValue, hz2, h2]
      exact fun h => absurd h h0
    · rw [put_some, lset_of (hl _)]
      refine kk _ _ (hu.cons (T := fun k => k = u.heap.size) ((Below.refl _ u).alloc (Nat.le_refl _) _) ⟨?_, hfl, .inr ⟨u.heap.size, rows.length, _, rfl, Nat.zero_le _, World.alloc_heap_new u _, Nat.le_refl _, ?_, ?_, ?_⟩⟩ (fun k hk => by omega))
      · intro k; simp [Value.ownBlock]; exact eq_comm
      · have : 0 < k := Nat.pos_of_ne_zero fun h => by simp [h] at hn0
        have := Nat.le_mul_of_pos_right rows.length this
        simp only [maxLen]; omega
      · simpa using hfl
      · simp only [List.toList_toArray]; exact List.take_of_length_le (by omega)
/-- An operation whose guard says no. -/
theorem WS.unwanted {o : Oper} {i : Nat} (hd : o.dst = some i) (hw : Region.wanted o (yielded ops l.toArray) = false) {l' : List Value} (hl : lset l i undef = some l') (k : WS P ro n0 w0 ds ops Q L rest l') : WS P ro n0 w0 ds ops Q L (o :: rest) l := by
  intro u hu
  unfold wpListIn
  rw [if_neg (by simp [hw]), hd, put_some, lset_of hl]
  exact ⟨fun _ _ => trivial, k u hu⟩
theorem St.storeO {e : TypeId} {v y : Value} {n m j : Nat} {xs : List Value} {u : World} (h : St n0 w0 L u) (hj : L[j]? = some (osl e 1 v n xs)) (hm : m < xs.length) :
    St n0 w0 (L.set j (osl e 1 v n (xs.set m y))) (u.setCell (sla v m) y) := by
  obtain ⟨T, hT, ⟨hS, hl, h2⟩, hc⟩ := h.upd hj
  rcases h2 with ⟨rfl, rfl⟩ | ⟨b, cap, cur, rfl, hb, hg, hn, hcap, hcur, htake⟩
  · simp at hl; subst hl; simp at hm
  · have hb' := hT b ((hS b).2 rfl)
    have es : sla (.slice (some ⟨b, 0, none⟩) n cap) m = ⟨b, m, none⟩ := by simp [sla, slb, slo]
    rw [es]
    refine hc _ _ (fun k => k = b) ((Below.refl _ u).setCell (p := ⟨b, m, none⟩) hb' y) (fun k hk o ho => ?_) ⟨fun k => ?_, by simpa using hl, .inr ⟨b, cap, cur.setIfInBounds m y, rfl, hb, heap_setCell_same u b m cur e y hg, hn, hcap, by simpa using hcur, ?_⟩⟩
      (fun k hk => by subst hk; exact ⟨hb', .inl ((hS _).2 rfl)⟩)
    · rw [Below.heap_setCell _ _ _ _ (fun e => hk.2.2 ((hS k).2 (by rw [e]; rfl)))]
      exact ho
    · exact ⟨fun h => by rw [h]; rfl, fun h => by simpa [Value.ownBlock, eq_comm] using h⟩
    · rw [← htake]
      simp [List.take_set]
theorem WS.storeO {T e : TypeId} {x y : Operand} {v z : Value} {m n j : Nat} {k : Bool} {xs : List Value} (hx : evo l x = some (.pointer (some (sla v m)))) (hj : L[j]? = some (osl e 1 v n xs)) (hm : m < xs.length)
    (hy : evo l y = some z) (h1 : z.oneCell' = true) (hT : tk P T = some (k, 1))
    {L' : List SA} (hL : lset L j (osl e 1 v n (xs.set m z)) = some L') (kk : WS P ro n0 w0 ds ops Q L' rest l) :
    WS P ro n0 w0 ds ops Q L (⟨none, .store T x y, ty, ps, af, none⟩ :: rest) l := by
  (replace hx := ev_of hx; replace hy := ev_of hy)
  rw [← lset_of hL] at kk
  refine WS.world_skip rfl rfl rfl fun u hu => ⟨u.setCell (sla v m) z, ?_, kk _ (hu.storeO hj hm)⟩
  obtain ⟨T', _, ⟨_, hl, h2⟩, _⟩ := hu.upd hj
  rcases h2 with ⟨rfl, rfl⟩ | ⟨b, cap, cur, rfl, hb, hg, hn, hcap, hcur, htake⟩
  · simp at hl; subst hl; simp at hm
  have es : sla (.slice (some ⟨b, 0, none⟩) n cap) m = ⟨b, m, none⟩ := by simp [sla, slb, slo]
  rw [es] at hx ⊢
  have hlt : m < cur.size := by rw [hcur]; omega
  have hcell : u.cell? ⟨b, m, none⟩ = some cur[m] := by rw [cell_of_row u b m _ e (0, 0) hg]; simp [hlt]
  have hfr : u.frozen? ⟨b, m, none⟩ = false := frozen_of_row u b m cur e hg
  have hcs : z.cells = #[z] := by cases z <;> simp_all [Value.cells, Value.oneCell']
  simp [execOp, hx, hy, Instr.storeAt, Instr.sureAddr, storeVar, (tk_spec hT u).2, hcs, storeCells, addr_add, run_store P u ⟨b, m, none⟩ z .plain h1, hcell, hfr]
theorem WS.storeOI {T e : TypeId} {x y : Operand} {v : Value} {i z : Int} {j : Nat} {k : Bool} {xs : List Int} (hx : evo l x = some (.pointer (some (sla v i.toNat)))) (hj : L[j]? = some (oints e v xs)) (h : 0 ≤ i ∧ i < xs.length)
    (hy : evo l y = some (.int .i64 z)) (hT : tk P T = some (k, 1))
    {L' : List SA} (hL : lset L j (oints e v (xs.set i.toNat z)) = some L') (kk : WS P ro n0 w0 ds ops Q L' rest l) :
    WS P ro n0 w0 ds ops Q L (⟨none, .store T x y, ty, ps, af, none⟩ :: rest) l := by
  refine WS.storeO hx hj (by simp [ints]; omega) hy rfl hT (L' := L') ?_ kk
  rw [← hL]
  simp [oints, ints, List.map_set]
theorem WS.makeInts {T e : TypeId} {by_ : Nat} {x y : Operand} {i : Nat} {n : Int} (hT : sl P T = some (e, 1, by_)) (hx : evo l x = some (.int .i64 n)) (hy : evo l y = some (.int .i64 n)) (hz : zv P e = some [.int .i64 0])
    (h0 : 0 ≤ n) (hb : (by_ : Int) * n ≤ 281474976710656) (hm : n ≤ 9223372036854775807)
    {l' : Value → List Value} (hl : ∀ v, lset l i v = some (l' v)) (k : ∀ v, WS P ro n0 w0 ds ops Q (oints e v (List.replicate n.toNat 0) :: L) rest (l' v)) :
    WS P ro n0 w0 ds ops Q L (⟨some i, .makeSlice T x y, ty, ps, af, none⟩ :: rest) l := by
  refine WS.makeSlice (z := e) hT hx hy hz rfl h0 rfl hb hm hl fun v => ?_
  have := k v
  unfold oints ints at this
  have e1 : List.map (Value.int .i64) (List.replicate n.toNat 0) = (List.replicate n.toNat [Value.int .i64 0]).flatten := by
    generalize n.toNat = m
    induction m with
    | zero => rfl
    | succ m ih => rw [List.replicate_succ, List.replicate_succ, List.flatten_cons, List.map_cons, ih]; rfl
  rw [e1] at this
  simpa using this
end

end Go.Proofs.Ytldagbcceefcdaa
