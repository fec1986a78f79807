/- Lists of slices of a call's own, whatever they hold; the choice of clues in memory. No program in sight. -/
import Derived.Test.YtldagbcceefcdaaLeft
namespace Go.Proofs.Ytldagbcceefcdaa
set_option linter.unusedVariables false
set_option linter.unusedSimpArgs false
open Go.RowKit Go.Proofs

/-- A slice of the call's own that holds xs, each in one cell. -/
def olst {α : Type} (f : α → Value) (e : TypeId) (v : Value) (xs : List α) : SA := osl e 1 v xs.length (xs.map f)
def lol {α : Type} (f : α → Value) (e : TypeId) (pl : List (Value × List α)) : List SA := pl.map fun p => olst f e p.1 p.2
section
variable {α : Type} {f : α → Value}
theorem lol_perm {e : TypeId} {pl : List (Value × List α)} {i : Nat} {p : Value × List α} (h : pl[i]? = some p) : (lol f e pl).Perm (olst f e p.1 p.2 :: lol f e (pl.eraseIdx i)) := by
  have h1 : (lol f e pl)[i]? = some (olst f e p.1 p.2) := by simp [lol, h]
  have h2 := perm_erase h1
  have h3 : (lol f e pl).eraseIdx i = lol f e (pl.eraseIdx i) := by simp [lol, eraseIdx_map']
  rwa [h3] at h2
section
variable {P : Program} {ro : Option Nat} {n0 : Nat} {w0 : World} {ds : List Deferred} {ops : Array Oper} {Q : Exit → Act → World → Prop} {L : List SA}
  {rest : List Oper} {l : List Value} {d : Option Tmp} {ty : TypeId} {ps : String} {af : Array Edge} {g : Option (Nat × Bool)} {C : World → Prop}
theorem St.focusL {e : TypeId} {pl : List (Value × List α)} {i j : Nat} {p : Value × List α} (hj : L[j]? = some (Go.Proofs.Ytldagbcceefcdaa.star (lol f e pl))) (h : pl[i]? = some p) {u : World} :
    St n0 w0 L u ↔ St n0 w0 (olst f e p.1 p.2 :: Go.Proofs.Ytldagbcceefcdaa.star (lol f e (pl.eraseIdx i)) :: L.eraseIdx j) u := by
  constructor
  · intro hu
    have h1 := (hu.perm (perm_erase hj)).unpack
    have h2 := h1.perm (List.Perm.append_right _ (lol_perm h))
    exact ((h2.perm (List.perm_middle (l₁ := lol f e (pl.eraseIdx i))).symm).pack).perm (.swap _ _ _)
  · intro hu
    have h1 := (hu.perm (.swap _ _ _)).unpack
    have h2 := h1.perm (List.perm_middle (l₁ := lol f e (pl.eraseIdx i)))
    have h3 : St n0 w0 ((olst f e p.1 p.2 :: lol f e (pl.eraseIdx i)) ++ L.eraseIdx j) u := h2
    exact ((h3.perm (List.Perm.append_right _ (lol_perm h).symm)).pack).perm (perm_erase hj).symm
theorem WS.appendAtL {T e : TypeId} {by_ t j i : Nat} {x y : Operand} {p : Value × List α} {z zc : Value} {a : α} {pl : List (Value × List α)} (hT : sl P T = some (e, 1, by_)) (hz : zv P e = some [zc])
    (hx : evo l x = some p.1) (hj : L[j]? = some (star (lol f e pl))) (hi : pl[i]? = some p) (hy : evo l y = some z) (hn : ∀ u, St n0 w0 L u → SlC u z 1 1 [f a]) (h1 : (f a).oneCell' = true)
    (hb : (p.2.length + 1) * by_ ≤ 140737488355328) (hm : p.2.length + 1 ≤ 9223372036854775807)
    {l' : Value → List Value} (hl : ∀ v, lset l t v = some (l' v)) {L' : Value → List SA} (hL : ∀ v', lset L j (star (lol f e (pl.set i (v', p.2 ++ [a])))) = some (L' v')) (k : ∀ v', v'.oneCell' = true → WS P ro n0 w0 ds ops Q (L' v') rest (l' v')) :
    WS P ro n0 w0 ds ops Q L (⟨some t, .call ⟨.builtin .append, #[x, y], #[T, T]⟩, ty, ps, af, none⟩ :: rest) l := by
  refine WS.weak (fun u hu => (St.focusL hj hi).1 hu) ?_
  refine WS.append (j := 0) (m := 1) (n := p.2.length) (xs := p.2.map f) hT hz rfl Nat.one_pos hx rfl hy (fun u hu => hn u ((St.focusL hj hi).2 hu)) (by simpa using h1) hm hb hl (fun _ => rfl) fun v' => ?_
  refine WS.oc (j := 0) rfl fun hv => ?_
  refine WS.weak (fun u hu => ?_) (k v' hv)
  have hjl := (List.getElem?_eq_some_iff.1 hj).1
  have hil := (List.getElem?_eq_some_iff.1 hi).1
  have h1 : L' v' = L.set j (star (lol f e (pl.set i (v', p.2 ++ [a])))) := (lset_of (hL v')).symm
  rw [h1]
  have a1 : (L.set j (Go.Proofs.Ytldagbcceefcdaa.star (lol f e (pl.set i (v', p.2 ++ [a])))))[j]? = some (Go.Proofs.Ytldagbcceefcdaa.star (lol f e (pl.set i (v', p.2 ++ [a])))) := List.getElem?_set_self hjl
  have a2 : (pl.set i (v', p.2 ++ [a]))[i]? = some (v', p.2 ++ [a]) := List.getElem?_set_self hil
  refine (St.focusL a1 a2).2 ?_
  have e1 : (pl.set i (v', p.2 ++ [a])).eraseIdx i = pl.eraseIdx i := List.eraseIdx_set_eq ..
  have e2 : (L.set j (star (lol f e (pl.set i (v', p.2 ++ [a]))))).eraseIdx j = L.eraseIdx j := List.eraseIdx_set_eq ..
  rw [e1, e2]
  unfold olst
  simpa using hu
theorem St.nilsL {e : TypeId} {u : World} (h : St n0 w0 L u) : ∀ n : Nat, St n0 w0 (Go.Proofs.Ytldagbcceefcdaa.star (lol f e (List.replicate n (.slice none 0 0, []))) :: L) u
  | 0 => St.pack (L1 := []) h
  | n + 1 => by
    have h1 := (St.nilsL (e := e) h n).unpack
    have h2 := h1.osl0 (e := e) (size := 1)
    exact St.pack (L1 := lol f e (List.replicate (n + 1) (.slice none 0 0, []))) h2
theorem WS.makeListsL {T te e : TypeId} {by_ i : Nat} {x y : Operand} {n : Int} (hT : sl P T = some (te, 1, by_)) (hx : evo l x = some (.int .i64 n)) (hy : evo l y = some (.int .i64 n)) (hz : zv P te = some [.slice none 0 0])
    (h0 : 0 ≤ n) (hb : (by_ : Int) * n ≤ 281474976710656) (hm : n ≤ 9223372036854775807)
    {l' : Value → List Value} (hl : ∀ v, lset l i v = some (l' v)) (k : ∀ v, v.oneCell' = true → WS P ro n0 w0 ds ops Q (osl te 1 v ((List.replicate n.toNat ((Value.slice none 0 0, []) : Value × List α)).map (·.1)).length ((List.replicate n.toNat ((Value.slice none 0 0, []) : Value × List α)).map (·.1)) :: star (lol f e (List.replicate n.toNat (.slice none 0 0, []))) :: L) rest (l' v)) :
    WS P ro n0 w0 ds ops Q L (⟨some i, .makeSlice T x y, ty, ps, af, none⟩ :: rest) l := by
  refine WS.weak (fun u hu => St.nilsL (f := f) (e := e) hu n.toNat) ?_
  refine WS.makeSlice (z := e) hT hx hy hz rfl h0 rfl hb hm hl fun v => ?_
  have e1 : (List.replicate n.toNat [Value.slice none 0 0]).flatten = (List.replicate n.toNat ((Value.slice none 0 0, []) : Value × List α)).map (·.1) := by
    generalize n.toNat = m
    induction m with
    | zero => rfl
    | succ m ih => simp [List.replicate_succ]
  rw [e1]
  refine WS.oc (j := 0) rfl fun hv => ?_
  have := k v hv
  simpa using this
theorem Star.olst {L : List SA} {S : Nat → Prop} {u : World} {e : TypeId} {v : Value} {xs : List α} {j : Nat} (hj : L[j]? = some (Go.Proofs.Ytldagbcceefcdaa.olst f e v xs)) (h : Star L S u) : SlC u v xs.length 1 (xs.map f) := by
  obtain ⟨T, _, h2⟩ := h.get hj
  exact ownsRow_SlC h2.2
end
end

/-- The choice, as it is read: pointer, numbers, rows of flags. -/
structure ChB (u : World) (b : Nat) (e : TypeId) (rows : List (List Bool)) (N : Int) (rv : Value) (gs : List Value) : Prop where
  bk : BlkAt u b [rv, .int .i64 N] e
  sp : SlC u rv rows.length 1 gs
  el : ∀ i : Int, 0 ≤ i → i < rows.length → SlC u (nth gs i) (nth rows i).length 1 ((nth rows i).map Value.bool)
theorem ChB.ext {w u : World} {b : Nat} {e : TypeId} {rows : List (List Bool)} {N : Int} {rv : Value} {gs : List Value} (h : ChB w b e rows N rv gs) (hb : Below w.heap.size w u) : ChB u b e rows N rv gs :=
  ⟨h.bk.ext hb, h.sp.ext hb, fun i h0 h1 => (h.el i h0 h1).ext hb⟩
theorem ChB.st {w0 u : World} {L : List SA} {b : Nat} {e : TypeId} {rows : List (List Bool)} {N : Int} {rv : Value} {gs : List Value} (h : ChB w0 b e rows N rv gs) (hu : St w0.heap.size w0 L u) : ChB u b e rows N rv gs := h.ext hu.below
/-- The flags of clues on all codes. -/
def flagsOf (w s : Int) (cs : List Clue) : List (List Bool) := cs.map fun c => (allC w s).map (holdsT c)
theorem flagsOf_len (w s : Int) (cs : List Clue) : (flagsOf w s cs).length = cs.length := by simp [flagsOf]
theorem flagsOf_at {w s : Int} {cs : List Clue} {i : Int} (h0 : 0 ≤ i) (h1 : i < cs.length) : nth (flagsOf w s cs) i = (allC w s).map (holdsT (nth cs i)) := by
  have : i.toNat < cs.length := by omega
  simp [nth, List.getD, flagsOf, this]
section
variable {P : Program} {L : List SA} {w0 : World} {l : List Value} {d : Option Tmp} {ty : TypeId} {ps : String} {af : Array Edge} {g : Option (Nat × Bool)}
  {b : Nat} {e : TypeId} {rows : List (List Bool)} {N : Int} {rv : Value} {gs : List Value}
theorem det_chRow {T : TypeId} {x : Operand} {z : Nat} {i : Int} (hx : evo l x = some (.pointer (some (sla rv (i.toNat * 1))))) (h : ChB w0 b e rows N rv gs) (h0 : 0 ≤ i) (h1 : i < rows.length) (hT : tk P T = some (false, z)) :
    Det P (St w0.heap.size w0 L) ⟨d, .load T x, ty, ps, af, g⟩ l (nth gs i) :=
  det_loadS hx (fun _ hu => h.sp.st hu) (by
    have h2 := h.sp.len
    rw [Nat.mul_one] at h2 ⊢
    exact nth_at h0 (by omega)) hT
theorem det_chFlag {T : TypeId} {x : Operand} {z : Nat} {i k : Int} (hx : evo l x = some (.pointer (some (sla (nth gs i) (k.toNat * 1))))) (h : ChB w0 b e rows N rv gs) (h0 : 0 ≤ i) (h1 : i < rows.length) (hk : 0 ≤ k ∧ k < (nth rows i).length) (hT : tk P T = some (false, z)) :
    Det P (St w0.heap.size w0 L) ⟨d, .load T x, ty, ps, af, g⟩ l (.bool (nth (nth rows i) k)) :=
  det_loadS hx (fun _ hu => (h.el i h0 h1).st hu) (by
    rw [Nat.mul_one, List.getElem?_map, nth_at hk.1 hk.2]; rfl) hT
end

/-- The first choice that begins with some numbers. -/
def moreF (w s : Int) (cs : List Clue) : Nat → List Nat → List Nat → Option (List Nat)
  | 0, ks, _ => if (readL w s (pickN cs ks)).length = 1 then some ks else none
  | n + 1, ks, us => go n ks us
where
  go (n : Nat) (ks : List Nat) : List Nat → Option (List Nat)
    | [] => none
    | i :: us => match moreF w s cs n (ks ++ [i]) us with
      | some r => some r
      | none => go n ks us
section
variable {w s : Int} {cs : List Clue}
theorem moreF_nil (n : Nat) (ks : List Nat) : moreF w s cs (n + 1) ks [] = none := by rw [moreF, moreF.go]
theorem moreF_some {n : Nat} {ks us r : List Nat} {i : Nat} (h : moreF w s cs n (ks ++ [i]) us = some r) : moreF w s cs (n + 1) ks (i :: us) = some r := by rw [moreF, moreF.go, h]
theorem moreF_none {n : Nat} {ks us : List Nat} {i : Nat} (h : moreF w s cs n (ks ++ [i]) us = none) : moreF w s cs (n + 1) ks (i :: us) = moreF w s cs (n + 1) ks us := by
  rw [moreF, moreF.go, h, moreF]
theorem any_fit {ks : List Nat} {x : List Int} : ((ks.map Int.ofNat).any fun i => !holdsT (nth cs i) x) = !fitB (pickN cs ks) x := by
  rw [fitB_all, pickN, List.all_map, List.any_map, List.not_all_eq_any_not]
  congr 1
end
theorem drop_getD {us : List Nat} {s : Int} (h0 : 0 ≤ s) (h1 : s < us.length) : us.drop s.toNat = us.getD s.toNat 0 :: us.drop (s + 1).toNat := by
  have hlt : s.toNat < us.length := by omega
  have e : (s + 1).toNat = s.toNat + 1 := by omega
  rw [e, List.drop_eq_getElem_cons hlt]
  simp [List.getD, hlt]
theorem moreRet {w0 : World} {L : List SA} {v : Value} {ys xs : List Int} {o : Bool} {j : Nat} (hn : nilB v = o) (hj : L[j]? = some (roI v ys)) (hx : ys = xs) :
    ∀ u, St w0.heap.size w0 L u → ∃ v' : Value, (nilB v' = o ∧ ∃ u0, SlI u0 v' xs) ∧ RetF w0 v' (roI v' xs) (.returned v) u := by
  subst hx
  exact fun u hu => ⟨v, ⟨hn, u, hu.roI hj⟩, retR (fun _ _ hs => hs.ro hj) u hu⟩
theorem moreRetN {w0 : World} {L : List SA} {xs : List Int} {o : Bool} (hn : true = o) (hx : [] = xs) :
    ∀ u, St w0.heap.size w0 L u → ∃ v' : Value, (nilB v' = o ∧ ∃ u0, SlI u0 v' xs) ∧ RetF w0 v' (roI v' xs) (.returned (.slice none 0 0)) u := by
  subst hx; subst hn
  exact fun u hu => ⟨_, ⟨rfl, u, SlI.none u⟩, retR (fun _ u _ => SlI.none u) u hu⟩
theorem St.toRoI {n0 : Nat} {w0 u : World} {L : List SA} {e : TypeId} {v : Value} {xs : List Int} (h : St n0 w0 (oints e v xs :: L) u) : St n0 w0 (Go.Proofs.Ytldagbcceefcdaa.roI v xs :: L) u :=
  St.toRo (A := Go.Proofs.Ytldagbcceefcdaa.oints e v xs) (p := fun u => SlI u v xs) (fun S u hA => ownsRow_SlC hA.2) h
theorem St.nilRoI {n0 : Nat} {w0 u : World} {L : List SA} (h : St n0 w0 L u) : St n0 w0 (Go.Proofs.Ytldagbcceefcdaa.roI (.slice none 0 0) [] :: L) u :=
  St.toRo (p := fun u => SlI u (.slice none 0 0) []) (fun S u _ => SlI.none u) (h.osl0 (e := 0) (size := 1))
theorem WS.sn {P : Program} {ro : Option Nat} {n0 : Nat} {w0 : World} {ds : List Deferred} {ops : Array Oper} {Q : Exit → Act → World → Prop} {L : List SA}
    {rest : List Oper} {l : List Value} {e : TypeId} {j : Nat} {v : Value} {xs : List Int} (hj : L[j]? = some (oints e v xs)) (h0 : 0 < xs.length) (kk : nilB v = false → (∃ p n c, v = .slice p n c) → WS P ro n0 w0 ds ops Q L rest l) : WS P ro n0 w0 ds ops Q L rest l := fun u hu => by
  obtain ⟨h1, h2⟩ := nilB_some (oints_SlI hu hj) h0
  exact kk h1 h2 u hu

/-- The clues from number i on that hold for a code. -/
def usFrom (cs : List Clue) (xs : List Int) (i : Nat) : List Nat := (restN cs.length i).filter fun k => holdsT (cs.getD k default) xs
def usTo (cs : List Clue) (xs : List Int) (i : Nat) : List Nat := (List.range i).filter fun k => holdsT (cs.getD k default) xs
section
variable {w s : Int} {cs : List Clue} {xs : List Int}
theorem usFrom_yes {i : Nat} (h : i < cs.length) (hh : holdsT (cs.getD i default) xs = true) : usFrom cs xs i = i :: usFrom cs xs (i + 1) := by
  unfold usFrom; rw [restN_cons h, List.filter_cons, if_pos hh]
theorem usFrom_no {i : Nat} (h : i < cs.length) (hh : holdsT (cs.getD i default) xs = false) : usFrom cs xs i = usFrom cs xs (i + 1) := by
  unfold usFrom; rw [restN_cons h, List.filter_cons, if_neg (by rw [hh]; simp)]
theorem usFrom_end {i : Nat} (h : cs.length ≤ i) : usFrom cs xs i = [] := by
  unfold usFrom restN; rw [List.drop_eq_nil_of_le (by simpa using h)]; rfl
theorem usFrom_lt {i : Nat} : ∀ k ∈ usFrom cs xs i, k < cs.length := fun k hk => (restN_mem (List.mem_filter.1 hk).1).2
theorem usTo_all : usTo cs xs cs.length = usFrom cs xs 0 := by unfold usTo usFrom; rw [restN_zero]
theorem usTo_yes {n : Int} (h0 : 0 ≤ n) (h : holdsT (nth cs n) xs = true) : (usTo cs xs (n + 1).toNat).map Int.ofNat = (usTo cs xs n.toNat).map Int.ofNat ++ [n] := by
  have e : (n + 1).toNat = n.toNat + 1 := by omega
  have e2 : ((n.toNat : Nat) : Int) = n := by omega
  have h2 : holdsT (cs.getD n.toNat default) xs = true := h
  rw [e, usTo, List.range_succ, List.filter_append, List.filter_cons, if_pos h2]
  simp [usTo, e2]
theorem usTo_no {n : Int} (h0 : 0 ≤ n) (h : holdsT (nth cs n) xs = false) : usTo cs xs (n + 1).toNat = usTo cs xs n.toNat := by
  have e : (n + 1).toNat = n.toNat + 1 := by omega
  have h2 : holdsT (cs.getD n.toNat default) xs = false := h
  rw [e, usTo, List.range_succ, List.filter_append, List.filter_cons, if_neg (by rw [h2]; simp)]
  simp [usTo]
theorem usTo_len (n : Nat) : (usTo cs xs n).length ≤ n := by
  have := List.length_filter_le (fun k => holdsT (cs.getD k default) xs) (List.range n)
  simpa [usTo] using this
/-- The first choice of at most n. -/
def chF (w s : Int) (cs : List Clue) (xs : List Int) : Nat → Option (List Nat)
  | 0 => none
  | n + 1 => match chF w s cs xs n with
    | some r => some r
    | none => moreF w s cs (n + 1) [] (usFrom cs xs 0)
def chooseX (w s : Int) (cs : List Clue) (xs : List Int) : Option (List Nat) := chF w s cs xs (usFrom cs xs 0).length
theorem chF_next {n : Nat} (h : chF w s cs xs n = none) (h2 : moreF w s cs (n + 1) [] (usFrom cs xs 0) = none) : chF w s cs xs (n + 1) = none := by rw [chF, h]; exact h2
theorem chF_stay {n : Nat} {r : List Nat} (h : chF w s cs xs n = some r) : ∀ d, chF w s cs xs (n + d) = some r
  | 0 => h
  | d + 1 => by rw [← Nat.add_assoc, chF, chF_stay h d]
theorem chF_found {n m : Nat} {r : List Nat} (h : chF w s cs xs n = none) (h2 : moreF w s cs (n + 1) [] (usFrom cs xs 0) = some r) (hm : n + 1 ≤ m) : chF w s cs xs m = some r := by
  have h1 : chF w s cs xs (n + 1) = some r := by rw [chF, h]; exact h2
  have := chF_stay h1 (m - (n + 1))
  rwa [show n + 1 + (m - (n + 1)) = m by omega] at this
theorem moreF_len : ∀ (n : Nat) (ks us : List Nat), us.length < n → moreF w s cs n ks us = none
  | 0, _, _, h => by omega
  | n + 1, ks, [], _ => moreF_nil n ks
  | n + 1, ks, i :: us, h => by
    rw [moreF_none (moreF_len n (ks ++ [i]) us (by simpa using h))]
    exact moreF_len (n + 1) ks us (by simp at h; omega)
theorem chF_more {n : Nat} (h : (usFrom cs xs 0).length ≤ n) (hn : chooseX w s cs xs = none) : chF w s cs xs n = none := by
  obtain ⟨d, rfl⟩ : ∃ d, n = (usFrom cs xs 0).length + d := ⟨n - (usFrom cs xs 0).length, by omega⟩
  clear h
  induction d with
  | zero => exact hn
  | succ d ih =>
    rw [← Nat.add_assoc]
    exact chF_next ih (moreF_len _ _ _ (by omega))
def chE (w s : Int) (cs : List Clue) (xs : List Int) : Int :=
  if ¬ lockE w s = 0 then lockE w s else if 12 < cs.length then 2 else if ¬ cluesE w s cs = 0 then cluesE w s cs else if ¬ codeE w s xs = 0 then codeE w s xs else if (chooseX w s cs xs).isNone then 3 else 0
/-- The rows of flags on the way: the first i clues have seen x, too. -/
def flgT (cs : List Clue) (pre : List (List Int)) (x : List Int) (i : Nat) : List (List Bool) := (List.range cs.length).map fun k => if k < i then (pre ++ [x]).map (holdsT (cs.getD k default)) else pre.map (holdsT (cs.getD k default))
theorem flgT_map (pre : List (List Int)) : (List.range cs.length).map (fun k => pre.map (holdsT (cs.getD k default))) = cs.map fun c => pre.map (holdsT c) := by
  apply List.ext_getElem
  · simp
  · intro i h1 h2
    have : i < cs.length := by simpa using h2
    simp [List.getD, this]
theorem flgT_zero {pre : List (List Int)} {x : List Int} : flgT cs pre x 0 = cs.map fun c => pre.map (holdsT c) := by
  rw [← flgT_map]; unfold flgT; simp
theorem flgT_end {pre : List (List Int)} {x : List Int} : flgT cs pre x cs.length = cs.map fun c => (pre ++ [x]).map (holdsT c) := by
  rw [← flgT_map]
  unfold flgT
  apply List.map_congr_left
  intro k hk
  rw [if_pos (by simpa using hk)]
theorem flgT_at {pre : List (List Int)} {x : List Int} {i : Nat} (h : i < cs.length) : (flgT cs pre x i)[i]? = some (pre.map (holdsT (cs.getD i default))) := by
  simp [flgT, h]
theorem flgT_set {pre : List (List Int)} {x : List Int} {i : Nat} (h : i < cs.length) : (flgT cs pre x i).set i (pre.map (holdsT (cs.getD i default)) ++ [holdsT (cs.getD i default) x]) = flgT cs pre x (i + 1) := by
  apply List.ext_getElem?
  intro k
  rw [List.getElem?_set]
  by_cases hk : k < cs.length
  · by_cases e : i = k
    · subst e
      rw [if_pos rfl, if_pos (by simp [flgT, h])]
      simp [flgT, h]
    · rw [if_neg e]
      have : (k < i) = (k < i + 1) := by simp; omega
      simp [flgT, hk, this]
  · rw [List.getElem?_eq_none (l := flgT cs pre x (i + 1)) (by simp [flgT]; omega)]
    rw [if_neg (by omega), List.getElem?_eq_none (by simp [flgT]; omega)]
theorem clCells_one {c : Clue} {g : Value} (hg : g.oneCell' = true) : ∀ y ∈ clCells c g, y.oneCell' = true := by
  intro y hy
  simp only [clCells, List.mem_cons, List.not_mem_nil, or_false] at hy
  rcases hy with rfl | rfl | rfl | rfl | rfl | rfl | rfl <;> first | rfl | exact hg
end
section
variable {n0 : Nat} {w0 u : World} {L : List SA}
theorem ChB_of {b j1 j2 j3 : Nat} {T te e : TypeId} {rv : Value} {N : Int} {pl : List (Value × List Bool)} {rows : List (List Bool)} (hu : St n0 w0 L u) (h1 : L[j1]? = some (blk b [rv, .int .i64 N] T)) (h2 : L[j2]? = some (osl te 1 rv (pl.map (·.1)).length (pl.map (·.1)))) (h3 : L[j3]? = some (star (lol Value.bool e pl)))
    (hp : pl.map (·.2) = rows) : ChB u b T rows N rv (pl.map (·.1)) := by
  subst hp
  refine ⟨st_blk hu h1, by simpa using osl_SlC hu h2, fun i h0 hi => ?_⟩
  have hlt : i.toNat < pl.length := by simp at hi; omega
  obtain ⟨S, _, hS⟩ := hu.get h3
  have := Star.olst (f := Value.bool) (j := i.toNat) (e := e) (v := (pl[i.toNat]).1) (xs := (pl[i.toNat]).2) (by simp [lol, hlt]) hS.1
  simpa [nth, List.getD, hlt] using this
end
theorem CS.drawnTillBut {P : Program} {ro : Option Nat} {n0 : Nat} {w0 : World} {ds : List Deferred} {Q : Exit → Act → World → Prop} {L : List SA} {l : List Value} (s j : Nat) {L0 : List SA} {id : Nat} {os : List Oper} {k : Nat} {bl : List Bool} (hm : P.follows .mixedOrders = true) (hk : os.length = k) (hb : List.replicate k false = bl)
    (_hL : lera L j = some L0) (h : AT P ro n0 w0 ds os.toArray Q (St n0 w0 L0) s L k bl l) :
    CS P ro n0 w0 ds (.region id os.toArray true) Q L l := by subst hb; exact CS.drawnZ s _ hm hk h
section
variable {w s : Int} {cs : List Clue} {xs : List Int}
theorem moreF_le {n : Nat} {ks us r : List Nat} (h : moreF w s cs n ks us = some r) : n ≤ us.length := by
  by_cases hl : us.length < n
  · rw [moreF_len n ks us hl] at h; cases h
  · omega
theorem usFrom_len : (usFrom cs xs 0).length ≤ cs.length := by
  have := List.length_filter_le (fun k => holdsT (cs.getD k default) xs) (restN cs.length 0)
  rw [restN_len] at this
  exact this
theorem chF_end {n : Nat} (hn : cs.length ≤ n) (h : chF w s cs xs n = none) : chooseX w s cs xs = none := by
  cases hc : chooseX w s cs xs with
  | none => rfl
  | some r =>
    have := chF_stay hc (n - (usFrom cs xs 0).length)
    have hl := usFrom_len (cs := cs) (xs := xs)
    rw [show (usFrom cs xs 0).length + (n - (usFrom cs xs 0).length) = n by omega, h] at this
    cases this
theorem readL_none (hL : lockB w s = true) : (readL w s (pickN cs [])).length = manyC w s := by
  rw [readL_eq, List.filter_eq_self.2 (fun x _ => by rw [fitB_all]; rfl), allC_len]
theorem manyC_two (hL : lockB w s = true) : 2 ≤ manyC w s := by
  have hl := lock_of hL
  have hp := manyC_pow (w := w) (s := s) (by omega)
  have h1 : (2 : Int) ^ 1 ≤ s ^ w.toNat := by
    have h2 := pow_bd4 (s := s) (by omega) (by omega) (k := w.toNat - 1) (by omega)
    have h3 : s ^ w.toNat = s ^ (w.toNat - 1) * s := by
      rw [← Int.pow_succ]
      congr 1
      omega
    rw [h3]
    have : 1 * s ≤ s ^ (w.toNat - 1) * s := Int.mul_le_mul_of_nonneg_right h2.1 (by omega)
    omega
  omega
theorem moreF_isSome {ks us : List Nat} : (moreF w s cs 0 ks us).isSome = decide ((readL w s (pickN cs ks)).length = 1) := by
  rw [moreF]
  by_cases h : (readL w s (pickN cs ks)).length = 1
  · rw [if_pos h, decide_eq_true h]; rfl
  · rw [if_neg h, decide_eq_false h]; rfl
theorem moreF_getD {ks us : List Nat} (h : (moreF w s cs 0 ks us).isSome = true) : ks.map Int.ofNat = ((moreF w s cs 0 ks us).getD []).map Int.ofNat := by
  rw [moreF_isSome, decide_eq_true_eq] at h
  rw [moreF, if_pos h]; rfl
theorem moreF_zero (hL : lockB w s = true) (us : List Nat) : moreF w s cs 0 [] us = none := by
  rw [moreF, readL_none hL, if_neg (by have := manyC_two hL; omega)]
end
theorem retB_roI {w w' : World} {v : Value} {e : Ending} (h : RetB w v e w') : RetF w v (roI (.slice none 0 0) []) e w' :=
  ⟨h.1, h.2, fun _ => False, ⟨fun u' _ => SlI.none u', fun _ h => h.elim⟩, fun _ h => h.elim⟩
end Go.Proofs.Ytldagbcceefcdaa
