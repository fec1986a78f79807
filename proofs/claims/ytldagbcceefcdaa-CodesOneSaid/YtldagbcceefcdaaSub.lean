/- Parts of slices; elements of a list of slices of a call's own. No program in sight. -/
import Derived.Test.YtldagbcceefcdaaTill
namespace Go.Proofs.Ytldagbcceefcdaa
set_option linter.unusedVariables false
set_option linter.unusedSimpArgs false
open Go.RowKit Go.Proofs

/-- The elements from lo on, up to hi; each of k cells. -/
def sub2 (k : Nat) : Value → Nat → Nat → Value
  | .slice p _ c, lo, hi => .slice (if c = lo then p else p.map (·.add (lo * k))) (hi - lo) (c - lo)
  | v, _, _ => v
/-- The same, with no more room than mx. -/
def sub3 (k : Nat) : Value → Nat → Nat → Nat → Value
  | .slice p _ _, lo, hi, mx => .slice (if mx = lo then p else p.map (·.add (lo * k))) (hi - lo) (mx - lo)
  | v, _, _, _ => v
theorem SlC.sub2 {u : World} {v : Value} {n k : Nat} {flat : List Value} (h : SlC u v n k flat) {lo hi : Nat} (h0 : lo ≤ hi) (h1 : hi ≤ n) : SlC u (Go.Proofs.Ytldagbcceefcdaa.sub2 k v lo hi) (hi - lo) k ((flat.drop (lo * k)).take ((hi - lo) * k)) := by
  obtain ⟨hl, p, cap, rfl, hc, hp⟩ := h
  have e : ((flat.drop (lo * k)).take ((hi - lo) * k)).length = (hi - lo) * k := by
    have h2 : (hi - lo) * k ≤ n * k - lo * k := by rw [← Nat.sub_mul]; exact Nat.mul_le_mul_right _ (by omega)
    simp [hl]; omega
  refine ⟨e, _, _, rfl, by omega, ?_⟩
  rcases hp with hn | ⟨b, o, rfl, hcell⟩
  · left; omega
  · by_cases hcl : cap = lo
    · left; omega
    · right
      refine ⟨b, o + lo * k, by rw [if_neg hcl]; simp [addr_add], fun m x hm => ?_⟩
      rw [List.getElem?_take] at hm
      split at hm
      · rw [List.getElem?_drop] at hm
        rw [Nat.add_assoc]
        exact hcell _ x hm
      · simp at hm
theorem SlI.sub2 {u : World} {v : Value} {xs : List Int} (h : SlI u v xs) {lo hi : Nat} (h0 : lo ≤ hi) (h1 : hi ≤ xs.length) : SlI u (Go.Proofs.Ytldagbcceefcdaa.sub2 1 v lo hi) ((xs.drop lo).take (hi - lo)) := by
  have := SlC.sub2 h h0 h1
  have e : ((xs.drop lo).take (hi - lo)).length = hi - lo := by simp; omega
  unfold SlI
  rw [e]
  simpa [List.map_take, List.map_drop] using this
theorem nth_dt {α : Type} [Inhabited α] {xs : List α} {lo m : Nat} {i : Int} (h0 : 0 ≤ i) (h1 : i < m) : nth ((xs.drop lo).take m) i = nth xs (lo + i) := by
  have e : ((lo : Int) + i).toNat = lo + i.toNat := by omega
  have e2 : i.toNat < m := by omega
  simp [nth, List.getD, List.getElem?_take, List.getElem?_drop, e, e2]
theorem SlL.sub2 {u : World} {v : Value} {xss : List (List Int)} {gs : List Value} (h : SlL u v xss gs) {lo hi : Nat} (h0 : lo ≤ hi) (h1 : hi ≤ xss.length) : SlL u (Go.Proofs.Ytldagbcceefcdaa.sub2 1 v lo hi) ((xss.drop lo).take (hi - lo)) ((gs.drop lo).take (hi - lo)) := by
  have e : ((xss.drop lo).take (hi - lo)).length = hi - lo := by simp; omega
  refine ⟨?_, fun i h2 h3 => ?_⟩
  · have := SlC.sub2 h.sp h0 h1
    rw [e]
    simpa using this
  · rw [e] at h3
    rw [nth_dt h2 h3, nth_dt h2 h3]
    exact h.el _ (by omega) (by omega)
theorem flat_dt {α : Type} (k : Nat) : ∀ (L : List (List α)) (lo : Nat), (∀ x ∈ L, x.length = k) → L.flatten.drop (lo * k) = (L.drop lo).flatten
  | [], lo, _ => by simp
  | x :: L, 0, _ => by simp
  | x :: L, lo + 1, h => by
    have hx := h x (by simp)
    have e : (lo + 1) * k = x.length + lo * k := by rw [hx, Nat.succ_mul, Nat.add_comm]
    simp only [List.flatten_cons, List.drop_succ_cons, e]
    rw [List.drop_append]
    have e2 : x.drop (x.length + lo * k) = [] := List.drop_eq_nil_of_le (by omega)
    rw [e2, List.nil_append]
    have e3 : x.length + lo * k - x.length = lo * k := by omega
    rw [e3, flat_dt k L lo fun y hy => h y (by simp [hy])]
theorem flat_tk {α : Type} (k : Nat) : ∀ (L : List (List α)) (m : Nat), (∀ x ∈ L, x.length = k) → L.flatten.take (m * k) = (L.take m).flatten
  | [], m, _ => by simp
  | x :: L, 0, _ => by simp
  | x :: L, m + 1, h => by
    have hx := h x (by simp)
    have e : (m + 1) * k = x.length + m * k := by rw [hx, Nat.succ_mul, Nat.add_comm]
    simp only [List.flatten_cons, List.take_succ_cons, e]
    rw [List.take_append]
    have e2 : x.take (x.length + m * k) = x := List.take_of_length_le (by omega)
    have e3 : x.length + m * k - x.length = m * k := by omega
    rw [e2, e3, flat_tk k L m fun y hy => h y (by simp [hy])]
theorem clFlat_dt {cs : List Clue} {gs : List Value} (lo m : Nat) : ((clFlat cs gs).drop (lo * 7)).take (m * 7) = clFlat ((cs.drop lo).take m) ((gs.drop lo).take m) := by
  have h7 : ∀ x ∈ List.zipWith clCells cs gs, x.length = 7 := by intro x hx; obtain ⟨n, hn, rfl⟩ := List.getElem_of_mem hx; simp [clCells]
  unfold clFlat
  rw [flat_dt 7 _ lo h7, flat_tk 7 _ m fun x hx => h7 x (List.mem_of_mem_drop hx)]
  rw [List.drop_zipWith, List.take_zipWith]
theorem ClS.sub2 {u : World} {v : Value} {cs : List Clue} {gs : List Value} (h : ClS u v cs gs) {lo hi : Nat} (h0 : lo ≤ hi) (h1 : hi ≤ cs.length) : ClS u (Go.Proofs.Ytldagbcceefcdaa.sub2 7 v lo hi) ((cs.drop lo).take (hi - lo)) ((gs.drop lo).take (hi - lo)) := by
  have e : ((cs.drop lo).take (hi - lo)).length = hi - lo := by simp; omega
  refine ⟨?_, by simp [h.len], fun i h2 h3 => ?_⟩
  · have := SlC.sub2 h.sp h0 h1
    rw [e]
    rwa [clFlat_dt] at this
  · rw [e] at h3
    rw [nth_dt h2 h3, nth_dt h2 h3]
    exact h.el _ (by omega) (by omega)

section
variable {P : Program} {ro : Option Nat} {n0 : Nat} {w0 : World} {ds : List Deferred} {ops : Array Oper} {Q : Exit → Act → World → Prop} {L : List SA}
  {rest : List Oper} {l : List Value} {d : Option Tmp} {ty : TypeId} {ps : String} {af : Array Edge} {g : Option (Nat × Bool)} {C : World → Prop}
theorem det_slTo {T e : TypeId} {k by_ : Nat} {x z : Operand} {v : Value} {n k' : Nat} {flat : List Value} {hi : Int} {w : World} (hT : sl P T = some (e, k, by_)) (hx : evo l x = some v) (hz : evo l z = some (.int .i64 hi))
    (hs : SlC w v n k' flat) (h1 : 0 ≤ hi) (h2 : hi ≤ n) : Det P C ⟨d, .slice T x none (some z) none, ty, ps, af, g⟩ l (sub2 k v 0 hi.toNat) := fun u _ => by
  obtain ⟨inf, hu, hi', hk, _⟩ := sl_spec hT
  obtain ⟨_, p, cap, rfl, hc, _⟩ := hs
  replace hx := ev_of hx
  replace hz := ev_of hz
  have e1 : (0 ≤ hi ∧ hi ≤ (cap : Int)) := by omega
  have e3 : 0 ≤ max hi 0 := by omega
  have e4 : Option.map (fun x : Addr => x.add 0) p = p := by
    cases p with
    | none => rfl
    | some a => simp [Addr.add]
  simp [execOp, DetUpon, hx, hz, Instr.sliceAt, Instr.slice, Instr.sliceBounds, Instr.sliceBound, asIntOf, run_underlying hu, e1, e3, sizeOf, typeInfo, hi', hk, sub2]
theorem det_slFrom {T e : TypeId} {k by_ : Nat} {x y : Operand} {v : Value} {n k' : Nat} {flat : List Value} {lo : Int} {w : World} (hT : sl P T = some (e, k, by_)) (hx : evo l x = some v) (hy : evo l y = some (.int .i64 lo))
    (hs : SlC w v n k' flat) (h1 : 0 ≤ lo) (h2 : lo ≤ n) : Det P C ⟨d, .slice T x (some y) none none, ty, ps, af, g⟩ l (sub2 k v lo.toNat n) := fun u _ => by
  obtain ⟨inf, hu, hi', hk, _⟩ := sl_spec hT
  obtain ⟨_, p, cap, rfl, hc, _⟩ := hs
  replace hx := ev_of hx
  replace hy := ev_of hy
  have e1 : (0 ≤ lo ∧ lo ≤ (n : Int)) := by omega
  simp [execOp, DetUpon, hx, hy, Instr.sliceAt, Instr.slice, Instr.sliceBounds, Instr.sliceBound, asIntOf, run_underlying hu, e1, sizeOf, typeInfo, hi', hk, sub2]
theorem det_slPart {T e : TypeId} {k by_ : Nat} {x y z : Operand} {v : Value} {n k' : Nat} {flat : List Value} {lo hi : Int} {w : World} (hT : sl P T = some (e, k, by_)) (hx : evo l x = some v) (hy : evo l y = some (.int .i64 lo)) (hz : evo l z = some (.int .i64 hi))
    (hs : SlC w v n k' flat) (h0 : 0 ≤ lo) (h1 : lo ≤ hi) (h2 : hi ≤ n) : Det P C ⟨d, .slice T x (some y) (some z) none, ty, ps, af, g⟩ l (sub2 k v lo.toNat hi.toNat) := fun u _ => by
  obtain ⟨inf, hu, hi', hk, _⟩ := sl_spec hT
  obtain ⟨_, p, cap, rfl, hc, _⟩ := hs
  replace hx := ev_of hx
  replace hy := ev_of hy
  replace hz := ev_of hz
  have e1 : (0 ≤ hi ∧ hi ≤ (cap : Int)) := by omega
  have e2 : (0 ≤ lo ∧ lo ≤ ((hi.toNat : Nat) : Int)) := by omega
  have e3 : lo ≤ max hi 0 := by omega
  simp [execOp, DetUpon, hx, hy, hz, Instr.sliceAt, Instr.slice, Instr.sliceBounds, Instr.sliceBound, asIntOf, run_underlying hu, e1, e2, e3, sizeOf, typeInfo, hi', hk, sub2]
theorem det_slPart3 {T e : TypeId} {k by_ : Nat} {x y z m : Operand} {v : Value} {n k' : Nat} {flat : List Value} {lo hi mx : Int} {w : World} (hT : sl P T = some (e, k, by_)) (hx : evo l x = some v) (hy : evo l y = some (.int .i64 lo)) (hz : evo l z = some (.int .i64 hi))
    (hm : evo l m = some (.int .i64 mx)) (hs : SlC w v n k' flat) (h0 : 0 ≤ lo) (h1 : lo ≤ hi) (h2 : hi ≤ mx) (h3 : mx ≤ n) : Det P C ⟨d, .slice T x (some y) (some z) (some m), ty, ps, af, g⟩ l (sub3 k v lo.toNat hi.toNat mx.toNat) := fun u _ => by
  obtain ⟨inf, hu, hi', hk, _⟩ := sl_spec hT
  obtain ⟨_, p, cap, rfl, hc, _⟩ := hs
  replace hx := ev_of hx
  replace hy := ev_of hy
  replace hz := ev_of hz
  replace hm := ev_of hm
  have e1 : (0 ≤ mx ∧ mx ≤ (cap : Int)) := by omega
  have e2 : (0 ≤ lo ∧ lo ≤ ((hi.toNat : Nat) : Int)) := by omega
  have e3 : lo ≤ max hi 0 := by omega
  have e4 : (0 ≤ hi ∧ hi ≤ ((mx.toNat : Nat) : Int)) := by omega
  have e5 : hi ≤ max mx 0 := by omega
  simp [execOp, DetUpon, hx, hy, hz, hm, Instr.sliceAt, Instr.slice, Instr.sliceBounds, Instr.sliceBound, asIntOf, run_underlying hu, e1, e2, e3, e4, e5, h0, sizeOf, typeInfo, hi', hk, sub3]
theorem sub3_SlC {k : Nat} {v : Value} {n k' : Nat} {flat : List Value} {u w : World} (hs : SlC w v n k' flat) (h : SlC u v n k flat) {lo hi mx : Nat} (h0 : lo ≤ hi) (h1 : hi ≤ mx) (h2 : mx ≤ n) :
    SlC u (sub3 k v lo hi mx) (hi - lo) k ((flat.drop (lo * k)).take ((hi - lo) * k)) := by
  obtain ⟨hl, p, cap, rfl, hc, hp⟩ := h
  have e : ((flat.drop (lo * k)).take ((hi - lo) * k)).length = (hi - lo) * k := by
    have h2 : (hi - lo) * k ≤ n * k - lo * k := by rw [← Nat.sub_mul]; exact Nat.mul_le_mul_right _ (by omega)
    simp [hl]; omega
  refine ⟨e, _, _, rfl, by omega, ?_⟩
  rcases hp with hn | ⟨b, o, rfl, hcell⟩
  · left; omega
  · by_cases hcl : mx = lo
    · left; omega
    · right
      refine ⟨b, o + lo * k, by rw [if_neg hcl]; simp [addr_add], fun m x hm => ?_⟩
      rw [List.getElem?_take] at hm
      split at hm
      · rw [List.getElem?_drop] at hm
        rw [Nat.add_assoc]
        exact hcell _ x hm
      · simp at hm

/-! ### an element of a list of slices grows -/
theorem eraseIdx_map' {α β : Type} (f : α → β) : ∀ (l : List α) (i : Nat), (l.map f).eraseIdx i = (l.eraseIdx i).map f
  | [], _ => by simp
  | _ :: _, 0 => by simp
  | x :: l, i + 1 => by simp [eraseIdx_map' f l i]
theorem loi_perm {e : TypeId} {pl : List (Value × List Int)} {i : Nat} {p : Value × List Int} (h : pl[i]? = some p) : (loi e pl).Perm (oints e p.1 p.2 :: loi e (pl.eraseIdx i)) := by
  have h1 : (loi e pl)[i]? = some (oints e p.1 p.2) := by simp [loi, h]
  have h2 := perm_erase h1
  have h3 : (loi e pl).eraseIdx i = loi e (pl.eraseIdx i) := by simp [loi, eraseIdx_map']
  rwa [h3] at h2
theorem St.focus {e : TypeId} {pl : List (Value × List Int)} {i j : Nat} {p : Value × List Int} (hj : L[j]? = some (Go.Proofs.Ytldagbcceefcdaa.star (loi e pl))) (h : pl[i]? = some p) {u : World} :
    St n0 w0 L u ↔ St n0 w0 (oints e p.1 p.2 :: Go.Proofs.Ytldagbcceefcdaa.star (loi e (pl.eraseIdx i)) :: L.eraseIdx j) u := by
  constructor
  · intro hu
    have h1 := (hu.perm (perm_erase hj)).unpack
    have h2 := h1.perm (List.Perm.append_right _ (loi_perm h))
    exact ((h2.perm (List.perm_middle (l₁ := loi e (pl.eraseIdx i))).symm).pack).perm (.swap _ _ _)
  · intro hu
    have h1 := (hu.perm (.swap _ _ _)).unpack
    have h2 := h1.perm (List.perm_middle (l₁ := loi e (pl.eraseIdx i)))
    have h3 : St n0 w0 ((oints e p.1 p.2 :: loi e (pl.eraseIdx i)) ++ L.eraseIdx j) u := h2
    exact ((h3.perm (List.Perm.append_right _ (loi_perm h).symm)).pack).perm (perm_erase hj).symm
theorem WS.appendAt {T e : TypeId} {by_ t j i : Nat} {x y : Operand} {p : Value × List Int} {z : Value} {ys : List Int} {pl : List (Value × List Int)} (hT : sl P T = some (e, 1, by_)) (hz : zv P e = some [.int .i64 0])
    (hx : evo l x = some p.1) (hj : L[j]? = some (star (loi e pl))) (hi : pl[i]? = some p) (hy : evo l y = some z) (hn : ∀ u, St n0 w0 L u → SlI u z ys)
    (hb : (p.2.length + ys.length) * by_ ≤ 140737488355328) (hm : p.2.length + ys.length ≤ 9223372036854775807)
    {l' : Value → List Value} (hl : ∀ v, lset l t v = some (l' v)) {L' : Value → List SA} (hL : ∀ v', lset L j (star (loi e (pl.set i (v', p.2 ++ ys)))) = some (L' v')) (k : ∀ v', v'.oneCell' = true → WS P ro n0 w0 ds ops Q (L' v') rest (l' v')) :
    WS P ro n0 w0 ds ops Q L (⟨some t, .call ⟨.builtin .append, #[x, y], #[T, T]⟩, ty, ps, af, none⟩ :: rest) l := by
  refine WS.weak (fun u hu => (St.focus hj hi).1 hu) ?_
  refine WS.appendI (j := 0) hT hz hx rfl hy (fun u hu => hn u ((St.focus hj hi).2 hu)) hb hm hl (fun _ => rfl) fun v' => ?_
  refine WS.oc (j := 0) rfl fun hv => ?_
  refine WS.weak (fun u hu => ?_) (k v' hv)
  have hjl := (List.getElem?_eq_some_iff.1 hj).1
  have hil := (List.getElem?_eq_some_iff.1 hi).1
  have h1 : L' v' = L.set j (star (loi e (pl.set i (v', p.2 ++ ys)))) := (lset_of (hL v')).symm
  rw [h1]
  have a1 : (L.set j (Go.Proofs.Ytldagbcceefcdaa.star (loi e (pl.set i (v', p.2 ++ ys)))))[j]? = some (Go.Proofs.Ytldagbcceefcdaa.star (loi e (pl.set i (v', p.2 ++ ys)))) := List.getElem?_set_self hjl
  have a2 : (pl.set i (v', p.2 ++ ys))[i]? = some (v', p.2 ++ ys) := List.getElem?_set_self hil
  refine (St.focus a1 a2).2 ?_
  have e1 : (pl.set i (v', p.2 ++ ys)).eraseIdx i = pl.eraseIdx i := List.eraseIdx_set_eq ..
  have e2 : (L.set j (star (loi e (pl.set i (v', p.2 ++ ys))))).eraseIdx j = L.eraseIdx j := List.eraseIdx_set_eq ..
  rw [e1, e2]
  exact hu
theorem St.nils {e : TypeId} {u : World} (h : St n0 w0 L u) : ∀ n : Nat, St n0 w0 (Go.Proofs.Ytldagbcceefcdaa.star (loi e (List.replicate n (.slice none 0 0, []))) :: L) u
  | 0 => St.pack (L1 := []) h
  | n + 1 => by
    have h1 := (St.nils (e := e) h n).unpack
    have h2 := h1.osl0 (e := e) (size := 1)
    exact St.pack (L1 := loi e (List.replicate (n + 1) (.slice none 0 0, []))) h2
theorem det_indexArr {T e : TypeId} {n : Nat} {x y : Operand} {cs : List Value} {i : Int} {v : Value} (hT : P.underlying T = some (.array n e)) (he : tk P e = some (false, 1)) (hx : evo l x = some (.agg cs.toArray)) (hy : evo l y = some (.int .i64 i))
    (h0 : 0 ≤ i) (h1 : i < n) (hv : cs[i.toNat]? = some v) : Det P C ⟨d, .index T x y, ty, ps, af, g⟩ l v := fun u _ => by
  replace hx := ev_of hx
  replace hy := ev_of hy
  have h2 := (tk_spec he u).1
  have h3 := (tk_spec he u).2
  have hlt : i.toNat < cs.length := (List.getElem?_eq_some_iff.1 hv).1
  have hv2 : cs[i.toNat] = v := (List.getElem?_eq_some_iff.1 hv).2
  simp [execOp, DetUpon, hx, hy, Instr.index, asIntOf, run_underlying hT, h0, h1, Go.part, h2, h3, hlt, hv2]
theorem det_loadbK {T : TypeId} {x : Operand} {b i n : Nat} {c cs : List Value} {e : TypeId} {j : Nat} (hx : evo l x = some (.pointer (some ⟨b, i, none⟩))) (hj : L[j]? = some (blk b c e)) (hv : (c.drop i).take n = cs) (hn : cs.length = n) (hT : tk P T = some (true, n)) :
    Det P (St n0 w0 L) ⟨d, .load T x, ty, ps, af, g⟩ l (.agg cs.toArray) := by
  subst hn
  exact det_loadbN hx hj hv hT
theorem WS.makeLists {T te e : TypeId} {by_ i : Nat} {x y : Operand} {n : Int} (hT : sl P T = some (te, 1, by_)) (hx : evo l x = some (.int .i64 n)) (hy : evo l y = some (.int .i64 n)) (hz : zv P te = some [.slice none 0 0])
    (h0 : 0 ≤ n) (hb : (by_ : Int) * n ≤ 281474976710656) (hm : n ≤ 9223372036854775807)
    {l' : Value → List Value} (hl : ∀ v, lset l i v = some (l' v)) (k : ∀ v, WS P ro n0 w0 ds ops Q (osl te 1 v ((List.replicate n.toNat ((Value.slice none 0 0, []) : Value × List Int)).map (·.1)).length ((List.replicate n.toNat ((Value.slice none 0 0, []) : Value × List Int)).map (·.1)) :: star (loi e (List.replicate n.toNat (.slice none 0 0, []))) :: L) rest (l' v)) :
    WS P ro n0 w0 ds ops Q L (⟨some i, .makeSlice T x y, ty, ps, af, none⟩ :: rest) l := by
  refine WS.weak (fun u hu => St.nils (e := e) hu n.toNat) ?_
  refine WS.makeSlice (z := e) hT hx hy hz rfl h0 rfl hb hm hl fun v => ?_
  have := k v
  have e1 : (List.replicate n.toNat [Value.slice none 0 0]).flatten = (List.replicate n.toNat ((Value.slice none 0 0, []) : Value × List Int)).map (·.1) := by
    generalize n.toNat = m
    induction m with
    | zero => rfl
    | succ m ih => simp [List.replicate_succ]
  rw [e1]
  simpa using this
end
end Go.Proofs.Ytldagbcceefcdaa
