import Derived.Test.YtldagbcceefcdaaIter
import Derived.Test.YtldagbcceefcdaaClue
import Derived.Lib.LazyBuf
/- part Ro -/
/- Memory that is only read on; parts picked out; lists of slices of a call's own; nil slices. No program in sight. -/
namespace Go.Proofs.Ytldagbcceefcdaa
set_option linter.unusedVariables false
set_option linter.unusedSimpArgs false
open Go.RowKit Go.Proofs

/-- A word on memory that stands as long as the blocks of the footprint stand. -/
def roS (p : World → Prop) : SA where
  h S u := (∀ u', KeepC S u u' → p u') ∧ ∀ k, S k → k < u.heap.size
  loc S u u' h hk := ⟨fun u'' h2 => h.1 u'' (fun k hS o ho => h2 k hS o (hk k hS o ho)), fun k hS => hk.lt hS (h.2 k hS)⟩
  dom S u k h hS := h.2 k hS
theorem roS.now {p : World → Prop} {S : Nat → Prop} {u : World} (h : (roS p).h S u) : p u := h.1 u (fun _ _ _ h => h)
theorem Star.ro {L : List SA} {S : Nat → Prop} {u : World} {p : World → Prop} {j : Nat} (hj : L[j]? = some (roS p)) (h : Star L S u) : p u := by
  obtain ⟨T, _, h2⟩ := h.get hj
  exact roS.now h2

section
variable {n0 : Nat} {w0 u : World} {L : List SA}
theorem St.ro {p : World → Prop} {j : Nat} (hj : L[j]? = some (roS p)) (h : St n0 w0 L u) : p u := h.star.ro hj
/-- A part is forgotten but for what is read in it. -/
theorem St.toRo {A : SA} {p : World → Prop} (hp : ∀ S u, A.h S u → p u) (h : St n0 w0 (A :: L) u) : St n0 w0 (roS p :: L) u := by
  obtain ⟨h1, h2, T, h3, h4, h5⟩ := h
  exact ⟨h1, h2, T, h3, ⟨fun u' hk => hp T u' (A.loc T u u' h4 hk), fun k hS => A.dom T u k h4 hS⟩, h5⟩
theorem St.osl0 {e : TypeId} {size : Nat} (h : St n0 w0 L u) : St n0 w0 (osl e size (.slice none 0 0) 0 [] :: L) u :=
  ⟨h.le, h.below, fun _ => False, fun _ h => h.elim, ⟨fun k => by simp [Value.ownBlock], World.ownsRow_nil u 0 e size⟩, h.star.sup fun _ h => ⟨h, fun h => h⟩⟩
theorem St.snoc {L0 : List SA} {A : SA} (h : St n0 w0 (Go.Proofs.Ytldagbcceefcdaa.star L0 :: A :: L) u) : St n0 w0 (Go.Proofs.Ytldagbcceefcdaa.star (L0 ++ [A]) :: L) u := by
  have h1 := h.unpack
  have e : L0 ++ A :: L = (L0 ++ [A]) ++ L := by simp
  rw [e] at h1
  exact h1.pack
/-- Parts picked out one after another; each number counts in what is left. -/
def selo : List SA → List Nat → Option (List SA)
  | _, [] => some []
  | L, i :: is => match L[i]?, lera L i with
    | some a, some L1 => match selo L1 is with
      | some r => some (a :: r)
      | none => none
    | _, _ => none
theorem lera_erase : ∀ {L : List SA} {i : Nat} {L1 : List SA}, lera L i = some L1 → L1 = L.eraseIdx i
  | [], i, L1, h => by simp [lera] at h; subst h; simp
  | x :: L, 0, L1, h => by simp [lera] at h; subst h; simp
  | x :: L, i + 1, L1, h => by
    unfold lera at h
    split at h
    · rename_i r hr
      simp at h
      subst h
      simp [lera_erase hr]
    · simp at h
theorem perm_erase : ∀ {L : List SA} {i : Nat} {a : SA}, L[i]? = some a → L.Perm (a :: L.eraseIdx i)
  | [], _, _, h => by simp at h
  | x :: L, 0, a, h => by simp at h; subst h; simp
  | x :: L, i + 1, a, h => by
    have := perm_erase (L := L) (i := i) (by simpa using h)
    simp only [List.eraseIdx_cons_succ]
    exact (this.cons x).trans (.swap _ _ _)
theorem Star.sel : ∀ {is : List Nat} {L L' : List SA} {S : Nat → Prop} {u : World}, selo L is = some L' → Star L S u → Star L' S u
  | [], L, L', S, u, h, hs => by simp [selo] at h; subst h; trivial
  | i :: is, L, L', S, u, h, hs => by
    unfold selo at h
    split at h
    · rename_i a L1 h1 h2
      split at h
      · rename_i r hr
        simp at h
        subst h
        have h3 := lera_erase h2
        subst h3
        obtain ⟨T, hT, hA, hL⟩ := hs.perm (perm_erase h1)
        exact ⟨T, hT, hA, Star.sel hr hL⟩
      · simp at h
    · simp at h
theorem St.sel (is : List Nat) {L' : List SA} (he : selo L is = some L') (h : St n0 w0 L u) : St n0 w0 L' u := ⟨h.le, h.below, h.star.sel he⟩
/-- A result in memory that the call made. -/
theorem retR {v : Value} {p : World → Prop} (hp : ∀ S u, Star L S u → p u) : ∀ u, St w0.heap.size w0 L u → RetF w0 v (roS p) (.returned v) u := fun u hu =>
  ⟨rfl, hu.below, fun k => w0.heap.size ≤ k ∧ k < u.heap.size, ⟨fun u' hk => hp _ u' (hu.star.keep (S' := fun k => w0.heap.size ≤ k ∧ k < u.heap.size) (fun k h o ho => hk k ⟨h, (Array.getElem?_eq_some_iff.1 ho).1⟩ o ho) fun k h1 h2 => ⟨h1, h2⟩), fun k h => h.2⟩, fun k h => h.1⟩
end

/-- Read-only parts of the usual kinds. -/
def roI (v : Value) (xs : List Int) : SA := roS fun u => SlI u v xs
def roL (v : Value) (xss : List (List Int)) (gs : List Value) : SA := roS fun u => SlL u v xss gs
def roC (v : Value) (cs : List Clue) (gs : List Value) : SA := roS fun u => ClS u v cs gs
section
variable {n0 : Nat} {w0 u : World} {L : List SA} {j : Nat} {v : Value}
theorem St.roI {xs : List Int} (hj : L[j]? = some (Go.Proofs.Ytldagbcceefcdaa.roI v xs)) (h : St n0 w0 L u) : SlI u v xs := h.ro hj
theorem St.roL {xss : List (List Int)} {gs : List Value} (hj : L[j]? = some (Go.Proofs.Ytldagbcceefcdaa.roL v xss gs)) (h : St n0 w0 L u) : SlL u v xss gs := h.ro hj
theorem St.roC {cs : List Clue} {gs : List Value} (hj : L[j]? = some (Go.Proofs.Ytldagbcceefcdaa.roC v cs gs)) (h : St n0 w0 L u) : ClS u v cs gs := h.ro hj
end

theorem Star.oints {L : List SA} {S : Nat → Prop} {u : World} {e : TypeId} {v : Value} {xs : List Int} {j : Nat} (hj : L[j]? = some (Go.Proofs.Ytldagbcceefcdaa.oints e v xs)) (h : Star L S u) : SlI u v xs := by
  obtain ⟨T, _, h2⟩ := h.get hj
  exact ownsRow_SlC h2.2
theorem Star.osl {L : List SA} {S : Nat → Prop} {u : World} {e : TypeId} {k n : Nat} {v : Value} {xs : List Value} {j : Nat} (hj : L[j]? = some (Go.Proofs.Ytldagbcceefcdaa.osl e k v n xs)) (h : Star L S u) : SlC u v n k xs := by
  obtain ⟨T, _, h2⟩ := h.get hj
  exact ownsRow_SlC h2.2
/-- Slices of ints of the call's own, one for each of a list. -/
def loi (e : TypeId) (ps : List (Value × List Int)) : List SA := ps.map fun p => Go.Proofs.Ytldagbcceefcdaa.oints e p.1 p.2
/-- A slice of such slices. -/
def oll (te e : TypeId) (v : Value) (ps : List (Value × List Int)) : SA := star [Go.Proofs.Ytldagbcceefcdaa.osl te 1 v (ps.map (·.1)).length (ps.map (·.1)), star (loi e ps)]
theorem Star.ollSlL {te e : TypeId} {v : Value} {ps : List (Value × List Int)} {L : List SA} {S : Nat → Prop} {u : World} (h : Star (Go.Proofs.Ytldagbcceefcdaa.osl te 1 v (ps.map (·.1)).length (ps.map (·.1)) :: star (loi e ps) :: L) S u) : SlL u v (ps.map (·.2)) (ps.map (·.1)) := by
  have h1 := Star.osl (j := 0) rfl h
  obtain ⟨T, _, h2⟩ := h.get (j := 1) rfl
  refine ⟨by simpa using h1, fun i h0 hi => ?_⟩
  have hlt : i.toNat < ps.length := by simp at hi; omega
  have := Star.oints (j := i.toNat) (e := e) (v := (ps[i.toNat]).1) (xs := (ps[i.toNat]).2) (by simp [loi, hlt]) h2.1
  simpa [nth, List.getD, hlt] using this
/-- A slice of slices that is given back. -/
theorem retL {te e : TypeId} {v : Value} {ps : List (Value × List Int)} {L : List SA} {w0 : World} {xss : List (List Int)} {f : Value → Value} (hx : ps.map (·.2) = xss) :
    ∀ u, St w0.heap.size w0 (Go.Proofs.Ytldagbcceefcdaa.osl te 1 v (ps.map (·.1)).length (ps.map (·.1)) :: star (loi e ps) :: L) u → ∃ x : Value × List Value, (∃ u0, SlL u0 x.1 xss x.2) ∧ RetF w0 (f x.1) (roL x.1 xss x.2) (.returned (f v)) u := fun u hu => by
  subst hx
  exact ⟨(v, ps.map (·.1)), ⟨u, hu.star.ollSlL⟩, retR (fun _ _ hs => hs.ollSlL) u hu⟩
theorem retLnil {L : List SA} {w0 : World} {f : Value → Value} : 
    ∀ u, St w0.heap.size w0 L u → ∃ x : Value × List Value, (∃ u0, SlL u0 x.1 [] x.2) ∧ RetF w0 (f x.1) (roL x.1 [] x.2) (.returned (f (.slice none 0 0))) u := fun u hu => by
  have h : ∀ u, SlL u (.slice none 0 0) [] [] := fun u => ⟨⟨by simp, none, 0, rfl, by simp, Or.inl rfl⟩, fun i h0 h1 => by simp at h1; omega⟩
  exact ⟨(.slice none 0 0, []), ⟨u, h u⟩, retR (fun _ u _ => h u) u hu⟩

section
variable {w0 : World} {L : List SA} {f : Value → Value} {t : Value}
theorem retLe {te e : TypeId} {v : Value} {ps : List (Value × List Int)} {xss : List (List Int)} (hx : ps.map (·.2) = xss) (hf : t = f v) :
    ∀ u, St w0.heap.size w0 (Go.Proofs.Ytldagbcceefcdaa.osl te 1 v (ps.map (·.1)).length (ps.map (·.1)) :: star (loi e ps) :: L) u → ∃ x : Value × List Value, (∃ u0, SlL u0 x.1 xss x.2) ∧ RetF w0 (f x.1) (roL x.1 xss x.2) (.returned t) u := by
  subst hf; exact retL hx
theorem retLne {xss : List (List Int)} (hx : [] = xss) (hf : t = f (.slice none 0 0)) : ∀ u, St w0.heap.size w0 L u → ∃ x : Value × List Value, (∃ u0, SlL u0 x.1 xss x.2) ∧ RetF w0 (f x.1) (roL x.1 xss x.2) (.returned t) u := by
  subst hf; subst hx; exact retLnil
/-- A list that is read in part j. -/
theorem retLr {xss yss : List (List Int)} {gs : List Value} {j : Nat} {v : Value} (hj : L[j]? = some (roL v yss gs)) (hx : yss = xss) (hf : t = f v) : ∀ u, St w0.heap.size w0 L u → ∃ x : Value × List Value, (∃ u0, SlL u0 x.1 xss x.2) ∧ RetF w0 (f x.1) (roL x.1 xss x.2) (.returned t) u := by
  subst hf; subst hx
  exact fun u hu => ⟨(v, gs), ⟨u, hu.roL hj⟩, retR (fun _ _ hs => hs.ro hj) u hu⟩
theorem retLp {xss : List (List Int)} {gs : List Value} {v : Value} (hp : ∀ S u, Star L S u → SlL u v xss gs) (hf : t = f v) : ∀ u, St w0.heap.size w0 L u → ∃ x : Value × List Value, (∃ u0, SlL u0 x.1 xss x.2) ∧ RetF w0 (f x.1) (roL x.1 xss x.2) (.returned t) u := by
  subst hf
  exact fun u hu => ⟨(v, gs), ⟨u, hp _ _ hu.star⟩, retR hp u hu⟩
theorem retIe {e : TypeId} {v : Value} {xs ys : List Int} {j : Nat} (hj : L[j]? = some (oints e v ys)) (hx : ys = xs) (hf : t = f v) :
    ∀ u, St w0.heap.size w0 L u → ∃ x : Value, (∃ u0, SlI u0 x xs) ∧ RetF w0 (f x) (roI x xs) (.returned t) u := by
  subst hx; subst hf
  exact fun u hu => ⟨v, ⟨u, oints_SlI hu hj⟩, retR (fun _ _ hs => hs.oints hj) u hu⟩
theorem retIp {v : Value} {xs : List Int} (hp : ∀ S u, Star L S u → SlI u v xs) (hf : t = f v) :
    ∀ u, St w0.heap.size w0 L u → ∃ x : Value, (∃ u0, SlI u0 x xs) ∧ RetF w0 (f x) (roI x xs) (.returned t) u := by
  subst hf
  exact fun u hu => ⟨v, ⟨u, hp _ _ hu.star⟩, retR hp u hu⟩
theorem retIq {v : Value} {xs ys : List Int} (hp : ∀ S u, Star L S u → SlI u v ys) (hx : ys = xs) (hf : t = f v) :
    ∀ u, St w0.heap.size w0 L u → ∃ x : Value, (∃ u0, SlI u0 x xs) ∧ RetF w0 (f x) (roI x xs) (.returned t) u := by
  subst hx; exact retIp hp hf
theorem retIn {xs : List Int} (hx : [] = xs) (hf : t = f (.slice none 0 0)) :
    ∀ u, St w0.heap.size w0 L u → ∃ x : Value, (∃ u0, SlI u0 x xs) ∧ RetF w0 (f x) (roI x xs) (.returned t) u := by
  subst hx
  exact retIp (fun _ u _ => ⟨by simp, none, 0, rfl, by simp, Or.inl rfl⟩) hf
end

section
variable {P : Program} {ro : Option Nat} {n0 : Nat} {w0 : World} {ds : List Deferred} {ops : Array Oper} {Q : Exit → Act → World → Prop} {L : List SA}
  {rest : List Oper} {l : List Value} {d : Option Tmp} {ty : TypeId} {ps : String} {af : Array Edge} {g : Option (Nat × Bool)} {C : World → Prop} {fuel : Nat} {bl : List Bool}

theorem CS.weak {L' : List SA} {c : Code} (h : ∀ u, St n0 w0 L u → St n0 w0 L' u) (k : CS P ro n0 w0 ds c Q L' l) : CS P ro n0 w0 ds c Q L l := fun u hu => k u (h u hu)
theorem WS.weak {L' : List SA} (h : ∀ u, St n0 w0 L u → St n0 w0 L' u) (k : WS P ro n0 w0 ds ops Q L' rest l) : WS P ro n0 w0 ds ops Q L rest l := fun u hu => k u (h u hu)
theorem QS.weak {L' : List SA} {e : Exit} (h : ∀ u, St n0 w0 L u → St n0 w0 L' u) (k : QS n0 w0 ds Q e L' l) : QS n0 w0 ds Q e L l := fun u hu => k u (h u hu)
theorem CS.sel (is : List Nat) {L' : List SA} {c : Code} (he : selo L is = some L') (k : CS P ro n0 w0 ds c Q L' l) : CS P ro n0 w0 ds c Q L l := fun u hu => k u (hu.sel is he)
theorem WS.sel (is : List Nat) {L' : List SA} (he : selo L is = some L') (k : WS P ro n0 w0 ds ops Q L' rest l) : WS P ro n0 w0 ds ops Q L rest l := fun u hu => k u (hu.sel is he)
theorem QS.sel (is : List Nat) {L' : List SA} {e : Exit} (he : selo L is = some L') (k : QS n0 w0 ds Q e L' l) : QS n0 w0 ds Q e L l := fun u hu => k u (hu.sel is he)
theorem CS.ex {β : Type} {f : β → SA} {c : Code} (k : ∀ b, CS P ro n0 w0 ds c Q (f b :: L) l) : CS P ro n0 w0 ds c Q (exS f :: L) l := fun u hu => let ⟨b, hb⟩ := hu.ex; k b u hb
theorem CS.unpack {L1 L2 : List SA} {c : Code} (k : CS P ro n0 w0 ds c Q (L1 ++ L2) l) : CS P ro n0 w0 ds c Q (star L1 :: L2) l := fun u hu => k u hu.unpack
theorem QS.unpack {L1 L2 : List SA} {e : Exit} (k : QS n0 w0 ds Q e (L1 ++ L2) l) : QS n0 w0 ds Q e (star L1 :: L2) l := fun u hu => k u hu.unpack
theorem QS.ex {β : Type} {f : β → SA} {e : Exit} (k : ∀ b, QS n0 w0 ds Q e (f b :: L) l) : QS n0 w0 ds Q e (exS f :: L) l := fun u hu => let ⟨b, hb⟩ := hu.ex; k b u hb

/-! ### nil -/
theorem det_eqnil {T e : TypeId} {a b : Nat} {T' : TypeId} {x y : Operand} {p : Option Addr} {n c : Nat} (hT : sl P T = some (e, a, b)) (hx : evo l x = some (.slice p n c)) (hy : evo l y = some (.slice none 0 0)) :
    Det P C ⟨d, .binOp .eql T x y T', ty, ps, af, g⟩ l (.bool p.isNone) := fun u _ => by
  (replace hx := ev_of hx; replace hy := ev_of hy)
  obtain ⟨_, hu, _⟩ := sl_spec hT
  simp [execOp, DetUpon, hx, hy, eqGuard, Go.run_eql_slice_nil u T e p n c hu]
theorem det_nenil {T e : TypeId} {a b : Nat} {T' : TypeId} {x y : Operand} {p : Option Addr} {n c : Nat} (hT : sl P T = some (e, a, b)) (hx : evo l x = some (.slice p n c)) (hy : evo l y = some (.slice none 0 0)) :
    Det P C ⟨d, .binOp .neq T x y T', ty, ps, af, g⟩ l (.bool (!p.isNone)) := fun u _ => by
  (replace hx := ev_of hx; replace hy := ev_of hy)
  obtain ⟨_, hu, _⟩ := sl_spec hT
  simp [execOp, DetUpon, hx, hy, eqGuard, Go.run_neq_slice_nil u T e p n c hu]
theorem SlC.nil {u : World} {n c k : Nat} {flat : List Value} (h : SlC u (.slice none n c) n k flat) : n = 0 := by
  obtain ⟨_, p, cap, h1, _, h2⟩ := h
  rcases h2 with h2 | ⟨b, o, rfl, _⟩
  · exact h2
  · simp at h1

/-! ### reading -/
theorem det_ldLR {T : TypeId} {x : Operand} {v : Value} {z j : Nat} {xss : List (List Int)} {gs : List Value} {i : Int} (hx : evo l x = some (.pointer (some (sla v i.toNat)))) (hj : L[j]? = some (roL v xss gs)) {u1 : World} (hs : SlL u1 v xss gs) (h : 0 ≤ i ∧ i < xss.length) (hT : tk P T = some (false, z)) :
    Det P (St n0 w0 L) ⟨d, .load T x, ty, ps, af, g⟩ l (nth gs i) :=
  det_loadS hx (fun _ hu => (hu.roL hj).sp) (nth_one ⟨h.1, by have := hs.sp.len; omega⟩) hT
theorem det_ldLI {T : TypeId} {x : Operand} {v : Value} {z j : Nat} {xss : List (List Int)} {gs : List Value} {i k : Int} (hx : evo l x = some (.pointer (some (sla (nth gs i) k.toNat)))) (hj : L[j]? = some (roL v xss gs)) (h : 0 ≤ i ∧ i < xss.length) (hk : 0 ≤ k ∧ k < (nth xss i).length) (hT : tk P T = some (false, z)) :
    Det P (St n0 w0 L) ⟨d, .load T x, ty, ps, af, g⟩ l (.int .i64 (nth (nth xss i) k)) :=
  det_loadS hx (fun _ hu => (hu.roL hj).el i h.1 h.2) (nth_map hk) hT
theorem det_ldIR {T : TypeId} {x : Operand} {v : Value} {z j : Nat} {xs : List Int} {k : Int} (hx : evo l x = some (.pointer (some (sla v k.toNat)))) (hj : L[j]? = some (roI v xs)) (hk : 0 ≤ k ∧ k < xs.length) (hT : tk P T = some (false, z)) :
    Det P (St n0 w0 L) ⟨d, .load T x, ty, ps, af, g⟩ l (.int .i64 (nth xs k)) :=
  det_loadS hx (fun _ hu => hu.roI hj) (nth_map hk) hT

/-! ### growing -/
theorem WS.appendI {T e : TypeId} {by_ i j : Nat} {x y : Operand} {v z : Value} {xs ys : List Int} (hT : sl P T = some (e, 1, by_)) (hz : zv P e = some [.int .i64 0])
    (hx : evo l x = some v) (hj : L[j]? = some (oints e v xs)) (hy : evo l y = some z) (hn : ∀ u, St n0 w0 L u → SlI u z ys)
    (hb : (xs.length + ys.length) * by_ ≤ 140737488355328) (hm : xs.length + ys.length ≤ 9223372036854775807)
    {l' : Value → List Value} (hl : ∀ v, lset l i v = some (l' v)) {L' : Value → List SA} (hL : ∀ v', lset L j (oints e v' (xs ++ ys)) = some (L' v')) (k : ∀ v', WS P ro n0 w0 ds ops Q (L' v') rest (l' v')) :
    WS P ro n0 w0 ds ops Q L (⟨some i, .call ⟨.builtin .append, #[x, y], #[T, T]⟩, ty, ps, af, none⟩ :: rest) l := by
  refine WS.append hT hz rfl Nat.one_pos hx hj hy hn (by simp [Value.oneCell']) hm hb hl (L' := L') (fun v' => ?_) k
  rw [← hL v']
  simp [oints, ints]
theorem WS.append1 {T e : TypeId} {by_ i j : Nat} {x y : Operand} {v z a : Value} {xs : List Value} {zc : Value} {jz : Nat} (hT : sl P T = some (e, 1, by_)) (hz : zv P e = some [zc])
    (hx : evo l x = some v) (hj : L[j]? = some (osl e 1 v xs.length xs)) (hy : evo l y = some z) (hn : L[jz]? = some (osl e 1 z 1 [a])) (h1 : a.oneCell' = true)
    (hb : (xs.length + 1) * by_ ≤ 140737488355328) (hm : xs.length + 1 ≤ 9223372036854775807)
    {l' : Value → List Value} (hl : ∀ v, lset l i v = some (l' v)) {L' : Value → List SA} (hL : ∀ v', lset L j (osl e 1 v' (xs ++ [a]).length (xs ++ [a])) = some (L' v')) (k : ∀ v', WS P ro n0 w0 ds ops Q (L' v') rest (l' v')) :
    WS P ro n0 w0 ds ops Q L (⟨some i, .call ⟨.builtin .append, #[x, y], #[T, T]⟩, ty, ps, af, none⟩ :: rest) l := by
  refine WS.append hT hz rfl Nat.one_pos hx hj hy (m := 1) (fun u hu => osl_SlC hu hn) (by simpa using h1) hm hb hl (L' := L') (fun v' => ?_) k
  rw [← hL v']
  simp
theorem WS.oc {e : TypeId} {k n j : Nat} {v : Value} {xs : List Value} (hj : L[j]? = some (osl e k v n xs)) (kk : v.oneCell' = true → WS P ro n0 w0 ds ops Q L rest l) : WS P ro n0 w0 ds ops Q L rest l := fun u hu => by
  obtain ⟨_, p, cap, rfl, _⟩ := osl_SlC hu hj
  exact kk rfl u hu
theorem CS.oc {e : TypeId} {k n j : Nat} {v : Value} {xs : List Value} {c : Code} (hj : L[j]? = some (osl e k v n xs)) (kk : v.oneCell' = true → CS P ro n0 w0 ds c Q L l) : CS P ro n0 w0 ds c Q L l := fun u hu => by
  obtain ⟨_, p, cap, rfl, _⟩ := osl_SlC hu hj
  exact kk rfl u hu
theorem CS.factE {p : Prop} {j : Nat} {c : Code} (hj : L[j]? = some (fact p)) (kk : p → CS P ro n0 w0 ds c Q L l) : CS P ro n0 w0 ds c Q L l := fun u hu => kk (hu.factE hj) u hu
theorem QS.factE {p : Prop} {j : Nat} {e : Exit} (hj : L[j]? = some (fact p)) (kk : p → QS n0 w0 ds Q e L l) : QS n0 w0 ds Q e L l := fun u hu => kk (hu.factE hj) u hu
theorem QS.exI {β : Type} {f : β → SA} {e : Exit} (b : β) (k : QS n0 w0 ds Q e (exS f :: L) l) : QS n0 w0 ds Q e (f b :: L) l := fun u hu => k u (hu.exI b)
theorem QS.pack {L1 L2 : List SA} {e : Exit} (k : QS n0 w0 ds Q e (star L1 :: L2) l) : QS n0 w0 ds Q e (L1 ++ L2) l := fun u hu => k u hu.pack
theorem QS.factI {p : Prop} {e : Exit} (hp : p) (k : QS n0 w0 ds Q e (fact p :: L) l) : QS n0 w0 ds Q e L l := fun u hu => k u (hu.factI hp)
theorem WS.buildI1 {T e : TypeId} {by_ i : Nat} {x : Operand} {a : Int} (hT : sl P T = some (e, 1, by_)) (hz : zv P e = some [.int .i64 0]) (hx : evo l x = some (.int .i64 a))
    {l' : Value → List Value} (hl : ∀ v, lset l i v = some (l' v)) (k : ∀ v, WS P ro n0 w0 ds ops Q (oints e v [a] :: L) rest (l' v)) :
    WS P ro n0 w0 ds ops Q L (⟨some i, .buildSlice T 1 #[(0, x)], ty, ps, af, none⟩ :: rest) l :=
  WS.buildSlice1 (pl := [(0, x)]) (vs := [.int .i64 a]) hT hz (by simp [ev_of hx]) rfl (by decide) (by simp [Value.oneCell']) hl k
theorem WS.buildV1 {T e : TypeId} {by_ i : Nat} {x : Operand} {a zc : Value} (hT : sl P T = some (e, 1, by_)) (hz : zv P e = some [zc]) (hx : evo l x = some a) (h1 : a.oneCell' = true)
    {l' : Value → List Value} (hl : ∀ v, lset l i v = some (l' v)) (k : ∀ v, WS P ro n0 w0 ds ops Q (osl e 1 v 1 [a] :: L) rest (l' v)) :
    WS P ro n0 w0 ds ops Q L (⟨some i, .buildSlice T 1 #[(0, x)], ty, ps, af, none⟩ :: rest) l :=
  WS.buildSlice1 (pl := [(0, x)]) (vs := [a]) hT hz (by simp [ev_of hx]) rfl (by decide) (by simpa using h1) hl k
/-- A list of slices takes in one more. -/
theorem St.ollSnoc {te e : TypeId} {v v1 : Value} {ps : List (Value × List Int)} {x : List Int} {u : World}
    (h : St n0 w0 (osl te 1 v (ps.map (·.1) ++ [v1]).length (ps.map (·.1) ++ [v1]) :: Go.Proofs.Ytldagbcceefcdaa.star (loi e ps) :: oints e v1 x :: L) u) :
    St n0 w0 (osl te 1 v ((ps ++ [(v1, x)]).map (·.1)).length ((ps ++ [(v1, x)]).map (·.1)) :: Go.Proofs.Ytldagbcceefcdaa.star (loi e (ps ++ [(v1, x)])) :: L) u := by
  have h1 : St n0 w0 (osl te 1 v (ps.map (·.1) ++ [v1]).length (ps.map (·.1) ++ [v1]) :: (loi e ps ++ (oints e v1 x :: L))) u := by
    have h2 := (h.perm (.swap _ _ _)).unpack
    exact h2.perm (List.perm_middle)
  have e1 : loi e ps ++ (oints e v1 x :: L) = loi e (ps ++ [(v1, x)]) ++ L := by simp [loi]
  rw [e1] at h1
  have h3 := (h1.perm (List.perm_middle (l₁ := loi e (ps ++ [(v1, x)]))).symm).pack.perm (.swap _ _ _)
  have e3 : ps.map (·.1) ++ [v1] = (ps ++ [(v1, x)]).map (·.1) := by simp
  rw [e3] at h3
  exact h3
theorem St.oll0 {te e : TypeId} {u : World} (h : St n0 w0 L u) : St n0 w0 (osl te 1 (.slice none 0 0) (([] : List (Value × List Int)).map (·.1)).length (([] : List (Value × List Int)).map (·.1)) :: Go.Proofs.Ytldagbcceefcdaa.star (loi e []) :: L) u := by
  have h1 : St n0 w0 (Go.Proofs.Ytldagbcceefcdaa.star [] :: L) u := St.pack (L1 := []) h
  exact h1.osl0 (e := te) (size := 1)
theorem QS.oc {e : TypeId} {k n j : Nat} {v : Value} {xs : List Value} {ex : Exit} (hj : L[j]? = some (osl e k v n xs)) (kk : v.oneCell' = true → QS n0 w0 ds Q ex L l) : QS n0 w0 ds Q ex L l := fun u hu => by
  obtain ⟨_, p, cap, rfl, _⟩ := osl_SlC hu hj
  exact kk rfl u hu
end

end Go.Proofs.Ytldagbcceefcdaa

/- part Till -/
/- Regions that draw their order and write: up to the first writing operation s what only reads is taken first. No program in sight. -/
namespace Go.Proofs.Ytldagbcceefcdaa
set_option linter.unusedVariables false
set_option linter.unusedSimpArgs false
open Go.RowKit

section
variable {P : Program} {ro : Option Nat} {n0 : Nat} {w0 : World} {ds : List Deferred} {ops : Array Oper} {Q : Exit → Act → World → Prop} {L : List SA}
  {rest : List Oper} {l : List Value} {C : World → Prop} {s : Nat}

/-- Operation i comes before s in each order. -/
def isAnc (ops : Array Oper) : Nat → Nat → Nat → Bool
  | 0, _, _ => false
  | n + 1, i, s => match ops[s]? with
    | some o => o.after.toList.any fun e => Region.binds .any e && (e.on == i || isAnc ops n i e.on)
    | none => false
/-- What is over has behind it all that it waits for. -/
def Closed (ops : Array Oper) (listed : Array Bool) : Prop := ∀ k o, ops[k]? = some o → listed.getD k true = true → ∀ e ∈ o.after, Region.binds .any e = true → listed.getD e.on true = true
theorem anc_closed {listed : Array Bool} (hc : Closed ops listed) : ∀ (n : Nat) {i s : Nat}, isAnc ops n i s = true → listed.getD s true = true → listed.getD i true = true
  | 0, _, _, h, _ => by simp [isAnc] at h
  | n + 1, i, s, h, hs => by
    unfold isAnc at h
    split at h
    · rename_i o ho
      rw [List.any_eq_true] at h
      obtain ⟨e, he, hb⟩ := h
      simp only [Bool.and_eq_true, Bool.or_eq_true, beq_iff_eq] at hb
      have h1 := hc s o ho hs e (by simpa using he) hb.1
      rcases hb.2 with rfl | h2
      · exact h1
      · exact anc_closed hc n h2 h1
    · simp at h
def closedB (ops : Array Oper) (listed : Array Bool) : Bool := ops.toList.zipIdx.all fun (o, k) => !(listed.getD k true) || o.after.toList.all fun e => !(Region.binds .any e) || listed.getD e.on true
theorem closedB_spec {listed : Array Bool} (h : closedB ops listed = true) : Closed ops listed := by
  intro k o ho hk e he hb
  unfold closedB at h
  rw [List.all_eq_true] at h
  have h1 := h (o, k) (by
    rw [List.mem_zipIdx_iff_getElem?]
    simpa using ho)
  simp only [hk, Bool.not_true, Bool.false_or, List.all_eq_true] at h1
  have h2 := h1 e (by simpa using he)
  simpa [hb] using h2
theorem Closed.step {listed : Array Bool} {j : Nat} (hc : Closed ops listed) (hj : j ∈ Region.ready .any ops listed) : Closed ops (listed.setIfInBounds j true) := by
  obtain ⟨hjun, oj, hoj, hall⟩ := mem_ready.1 hj
  have up : ∀ k, listed.getD k true = true → (listed.setIfInBounds j true).getD k true = true := fun k hk => by
    by_cases h : j = k
    · subst h
      rw [hk] at hjun; cases hjun
    · rw [getD_set_ne true h]; exact hk
  intro k o ho hk e he hb
  refine up _ ?_
  by_cases h : j = k
  · subst h
    rw [hoj] at ho
    injection ho with ho
    subst ho
    have h1 := hall e he hb
    rcases Nat.lt_or_ge e.on listed.size with h' | h'
    · simp [h'] at h1 ⊢; exact h1
    · simp [Array.getElem?_eq_none h'] at h1
  · rw [getD_set_ne true h] at hk
    exact hc k o ho hk e he hb

/-- Whatever order is picked from here on, whatever lies behind; C holds as long as s is not over. -/
def AZ (P : Program) (ro : Option Nat) (ops : Array Oper) (Q : Exit → Act → World → Prop) (C : World → Prop) (s : Nat) : Nat → Array Bool → Act → World → Prop
  | 0, listed, a, w => ∀ u, Below w.heap.size w u → (listed.getD s true = false → C u) ∧ Region.ready .any ops listed = [] ∧ Q .normal a u
  | fuel + 1, listed, a, w => ∀ u, Below w.heap.size w u → (listed.getD s true = false → C u) ∧ (Region.ready .any ops listed = [] → Q .normal a u) ∧
      ∀ i ∈ Region.ready .any ops listed, wpOpIn (FW ro) 0 P ops Q i (AZ P ro ops Q C s fuel (listed.setIfInBounds i true)) a u

theorem AZ.ext : ∀ {fuel : Nat} {listed : Array Bool} {a : Act} {w u : World}, AZ P ro ops Q C s fuel listed a w → Below w.heap.size w u → AZ P ro ops Q C s fuel listed a u
  | 0, _, _, _, _, h, hb => fun u' hb' => h u' (below_trans hb hb')
  | _ + 1, _, _, _, _, h, hb => fun u' hb' => h u' (below_trans hb hb')
theorem AZ.any : ∀ {fuel : Nat} {listed : Array Bool} {a : Act} {w : World}, AZ P ro ops Q C s fuel listed a w → wpAnyIn (FW ro) 0 P .any ops Q fuel listed a w
  | 0, _, _, w, h => (h w (Below.refl _ _)).2
  | _ + 1, _, _, w, h => ⟨(h w (Below.refl _ _)).2.1, fun i hi => wpOpIn_mono (fun _ _ h => AZ.any h) ((h w (Below.refl _ _)).2.2 i hi)⟩
theorem AZ.holds : ∀ {fuel : Nat} {listed : Array Bool} {a : Act} {w : World}, AZ P ro ops Q C s fuel listed a w → listed.getD s true = false → C w
  | 0, _, _, w, h => (h w (Below.refl _ _)).1
  | _ + 1, _, _, w, h => (h w (Below.refl _ _)).1

theorem AZ.first {i : Nat} {oi : Oper} {v : Value} (hi : ops[i]? = some oi) (hcalm : allCalm ops = true) {na : Nat} (ha : isAnc ops na i s = true) (his : (i == s) = false) :
    ∀ (fuel : Nat) (listed : Array Bool) (a : Act) (w : World),
      (∀ j oj, ops[j]? = some oj → j ≠ i → listed.getD j true = false → (∀ e ∈ oj.after, Region.binds .any e = true → e.on ≠ i) → oi.apart ops oj = true) →
      i ∈ Region.ready .any ops listed → Closed ops listed → Yc P ops C oi v a →
      AZ P ro ops (NP Q) C s fuel (listed.setIfInBounds i true) (a.put oi.dst v) w → AZ P ro ops (NP Q) C s (fuel + 1) listed a w := by
  have hci := allCalm_spec hcalm i oi hi
  intro fuel
  induction fuel with
  | zero =>
    intro listed a w _ hr hcl hy H u hu
    have Hu := H.ext hu
    have hiun := (mem_ready.1 hr).1
    have hsun : listed.getD s true = false := by
      rcases Bool.eq_false_or_eq_true (listed.getD s true) with h | h
      · have := anc_closed hcl na ha h; rw [this] at hiun; cases hiun
      · exact h
    have hsun' : (listed.setIfInBounds i true).getD s true = false := by rw [getD_set_ne true (by simpa using his)]; exact hsun
    refine ⟨fun _ => Hu.holds hsun', fun h => (by rw [h] at hr; cases hr), fun j hj => ?_⟩
    by_cases hji : j = i
    · subst hji; exact hy.opIn hi hci (Hu.holds hsun') fun u' hu' => Hu.ext hu'
    · have := ready_mono hj hji
      rw [(H u hu).2.1] at this
      cases this
  | succ fuel ih =>
    intro listed a w hfree hr hcl hy H u hu
    have Hu := H.ext hu
    have hiun := (mem_ready.1 hr).1
    have hsun : listed.getD s true = false := by
      rcases Bool.eq_false_or_eq_true (listed.getD s true) with h | h
      · have := anc_closed hcl na ha h; rw [this] at hiun; cases hiun
      · exact h
    have hsun' : (listed.setIfInBounds i true).getD s true = false := by rw [getD_set_ne true (by simpa using his)]; exact hsun
    refine ⟨fun _ => Hu.holds hsun', fun h => (by rw [h] at hr; cases hr), fun j hj => ?_⟩
    by_cases hji : j = i
    · subst hji; exact hy.opIn hi hci (Hu.holds hsun') fun u' hu' => Hu.ext hu'
    · have h1 := (H u hu).2.2 j (ready_mono hj hji)
      obtain ⟨hjun, oj, hoj, hall⟩ := mem_ready.1 hj
      have hnot : ∀ e ∈ oj.after, Region.binds .any e = true → e.on ≠ i := fun e he hb heq => by
        have h1 := hall e he hb
        have h0 := (mem_ready.1 hr).1
        rw [heq] at h1
        rcases Nat.lt_or_ge i listed.size with h' | h'
        · simp [h'] at h0 h1; rw [h0] at h1; cases h1
        · simp [Array.getElem?_eq_none h'] at h1
      have h2 := wpOpIn_putC hoj (hfree j oj hoj hji hjun hnot) hcalm hci hy h1
      have hfree' : ∀ k ok, ops[k]? = some ok → k ≠ i → (listed.setIfInBounds j true).getD k true = false →
          (∀ e ∈ ok.after, Region.binds .any e = true → e.on ≠ i) → oi.apart ops ok = true := fun k ok hk hki hun hno => by
        refine hfree k ok hk hki ?_ hno
        by_cases hjk : j = k
        · subst hjk; exact hjun
        · rw [getD_set_ne true hjk] at hun; exact hun
      refine wpOpIn_mono (fun a' w' h3 => ih (listed.setIfInBounds j true) a' w' hfree' (ready_mono hr (Ne.symm hji)) (hcl.step hj) h3.1 ?_) h2
      rw [Array.setIfInBounds_comm _ _ hji]
      exact h3.2

/-- What is left of the region, the operations of bl being over. -/
def AT (P : Program) (ro : Option Nat) (n0 : Nat) (w0 : World) (ds : List Deferred) (ops : Array Oper) (Q : Exit → Act → World → Prop) (C : World → Prop) (s : Nat) (L : List SA) (fuel : Nat) (bl : List Bool) (l : List Value) : Prop :=
  ∀ u, St n0 w0 L u → AZ P ro ops (NP Q) C s fuel bl.toArray ⟨l.toArray, ds⟩ u

variable {bl bl' : List Bool} {fuel : Nat} {l' : List Value}

theorem CS.drawnZ {id : Nat} {os : List Oper} {k : Nat} (s : Nat) (C : World → Prop) (hm : P.follows .mixedOrders = true) (hk : os.length = k) (h : AT P ro n0 w0 ds os.toArray Q C s L k (List.replicate k false) l) :
    CS P ro n0 w0 ds (.region id os.toArray true) Q L l := fun u hu => by
  subst hk
  refine Go.wpIn_mono (wpIn_region_any hm ?_) (fun e a w => NP.le e a w)
  have := (h _ hu.drew).any
  simpa using this

theorem AT.take (i : Nat) {oi : Oper} {d : Nat} {v : Value} (hi : ops[i]? = some oi) (hcalm : allCalm ops = true) {na : Nat} (ha : isAnc ops na i s = true) (his : (i == s) = false) (hcl : closedB ops bl.toArray = true) (hf : Region.free .any ops bl.toArray i = true) (hr : (Region.ready .any ops bl.toArray).contains i = true)
    (hd : oi.dst = some d) (hg : oi.guard = none) (h : Det P C oi l v) (hb : lset bl i true = some bl') (hl : lset l d v = some l') (k : AT P ro n0 w0 ds ops Q C s L fuel bl' l') :
    AT P ro n0 w0 ds ops Q C s L (fuel + 1) bl l := fun u hu => by
  rw [← lset_of hb, ← lset_of hl] at k
  refine AZ.first hi hcalm ha his fuel _ _ u (Region.free_spec hi hf) (by simpa using hr) (closedB_spec hcl) (v := v) (.inl ⟨by simp [Region.wanted, hg], ?_⟩) ?_
  · intro w hw; rw [eval_ev]; exact h w hw
  · rw [hd, put_some]
    have := k u hu
    simpa using this
theorem AT.takeG (i : Nat) {oi : Oper} {d : Nat} {v : Value} {g : Nat × Bool} {b : Bool} (hi : ops[i]? = some oi) (hcalm : allCalm ops = true) {na : Nat} (ha : isAnc ops na i s = true) (his : (i == s) = false) (hcl : closedB ops bl.toArray = true) (hf : Region.free .any ops bl.toArray i = true) (hr : (Region.ready .any ops bl.toArray).contains i = true)
    (hd : oi.dst = some d) (hg : oi.guard = some g) (hw : (yielded ops l.toArray g.1 == some g.2) = b) (h : b = true → Det P C oi l v) (hb : lset bl i true = some bl') (hl : lset l d (cond b v undef) = some l') (k : AT P ro n0 w0 ds ops Q C s L fuel bl' l') :
    AT P ro n0 w0 ds ops Q C s L (fuel + 1) bl l := fun u hu => by
  rw [← lset_of hb, ← lset_of hl] at k
  have hw' : Region.wanted oi (yielded ops (Act.mk l.toArray ds).tmps) = b := by
    obtain ⟨j, want⟩ := g
    simp only [Region.wanted, hg]
    exact hw
  refine AZ.first hi hcalm ha his fuel _ _ u (Region.free_spec hi hf) (by simpa using hr) (closedB_spec hcl) (v := cond b v undef) ?_ ?_
  · cases b with
    | true => exact .inl ⟨hw', fun w hC => by rw [eval_ev]; exact h rfl w hC⟩
    | false => exact .inr ⟨hw', rfl⟩
  · rw [hd, put_some]
    have := k u hu
    simpa using this
theorem AT.takeT (i : Nat) {oi : Oper} {d j : Nat} {v : Value} {b : Bool} (hi : ops[i]? = some oi) (hcalm : allCalm ops = true) {na : Nat} (ha : isAnc ops na i s = true) (his : (i == s) = false) (hcl : closedB ops bl.toArray = true) (hf : Region.free .any ops bl.toArray i = true) (hr : (Region.ready .any ops bl.toArray).contains i = true)
    (hd : oi.dst = some d) (hg : oi.guard = some (j, true)) (hw : yielded ops l.toArray j = some b) (h : b = true → Det P C oi l v) (hb : lset bl i true = some bl') (hl : lset l d (cond b v undef) = some l') (k : AT P ro n0 w0 ds ops Q C s L fuel bl' l') :
    AT P ro n0 w0 ds ops Q C s L (fuel + 1) bl l := AT.takeG i hi hcalm ha his hcl hf hr hd hg (b := b) (by rw [hw]; cases b <;> rfl) h hb hl k
theorem AT.takeF (i : Nat) {oi : Oper} {d j : Nat} {v : Value} {b : Bool} (hi : ops[i]? = some oi) (hcalm : allCalm ops = true) {na : Nat} (ha : isAnc ops na i s = true) (his : (i == s) = false) (hcl : closedB ops bl.toArray = true) (hf : Region.free .any ops bl.toArray i = true) (hr : (Region.ready .any ops bl.toArray).contains i = true)
    (hd : oi.dst = some d) (hg : oi.guard = some (j, false)) (hw : yielded ops l.toArray j = some b) (h : (!b) = true → Det P C oi l v) (hb : lset bl i true = some bl') (hl : lset l d (cond (!b) v undef) = some l') (k : AT P ro n0 w0 ds ops Q C s L fuel bl' l') :
    AT P ro n0 w0 ds ops Q C s L (fuel + 1) bl l := AT.takeG i hi hcalm ha his hcl hf hr hd hg (b := !b) (by rw [hw]; cases b <;> rfl) h hb hl k

theorem AT.one {i : Nat} {o : Oper} (hr : Region.ready .any ops bl.toArray = [i]) (hi : ops[i]? = some o) (hC : bl.toArray.getD s true = false → ∀ u, St n0 w0 L u → C u) (hb : lset bl i true = some bl')
    (h : WS P ro n0 w0 ds ops (Exit.then (AZ P ro ops (NP Q) C s fuel bl'.toArray) (NP Q)) L [o] l) : AT P ro n0 w0 ds ops Q C s L (fuel + 1) bl l := fun u hu u' hu' => by
  have hst := hu.ext hu'
  refine ⟨fun h => hC h _ hst, fun h0 => by rw [hr] at h0; simp at h0, fun j hj => ?_⟩
  rw [hr] at hj
  obtain rfl : j = i := by simpa using hj
  have := opIn_of_WS hi (h u' hst)
  rw [← lset_of hb] at this
  simpa using this
theorem AT.two {i j : Nat} {o p : Oper} {bi bj : List Bool} (hr : Region.ready .any ops bl.toArray = [i, j]) (hi : ops[i]? = some o) (hj : ops[j]? = some p) (hC : bl.toArray.getD s true = false → ∀ u, St n0 w0 L u → C u) (hbi : lset bl i true = some bi) (hbj : lset bl j true = some bj)
    (h1 : WS P ro n0 w0 ds ops (Exit.then (AZ P ro ops (NP Q) C s fuel bi.toArray) (NP Q)) L [o] l) (h2 : WS P ro n0 w0 ds ops (Exit.then (AZ P ro ops (NP Q) C s fuel bj.toArray) (NP Q)) L [p] l) :
    AT P ro n0 w0 ds ops Q C s L (fuel + 1) bl l := fun u hu u' hu' => by
  have hst := hu.ext hu'
  refine ⟨fun h => hC h _ hst, fun h0 => by rw [hr] at h0; simp at h0, fun k hk => ?_⟩
  rw [hr] at hk
  simp at hk
  rcases hk with rfl | rfl
  · have := opIn_of_WS hi (h1 u' hst)
    rw [← lset_of hbi] at this
    simpa using this
  · have := opIn_of_WS hj (h2 u' hst)
    rw [← lset_of hbj] at this
    simpa using this
theorem AT.done (hr : Region.ready .any ops bl.toArray = []) (hC : bl.toArray.getD s true = false → ∀ u, St n0 w0 L u → C u) (k : QS n0 w0 ds Q .normal L l) : AT P ro n0 w0 ds ops Q C s L 0 bl l := fun u hu u' hu' =>
  ⟨fun h => hC h _ (hu.ext hu'), hr, k u' (hu.ext hu')⟩
theorem QS.then_AT {fuel : Nat} (k : AT P ro n0 w0 ds ops Q C s L fuel bl l) : QS n0 w0 ds (Exit.then (AZ P ro ops (NP Q) C s fuel bl.toArray) (NP Q)) .normal L l := fun u hu => k u hu


theorem CS.drawnTill (s : Nat) {id : Nat} {os : List Oper} {k : Nat} {bl : List Bool} (hm : P.follows .mixedOrders = true) (hk : os.length = k) (hb : List.replicate k false = bl) (h : AT P ro n0 w0 ds os.toArray Q (St n0 w0 L) s L k bl l) :
    CS P ro n0 w0 ds (.region id os.toArray true) Q L l := by subst hb; exact CS.drawnZ s _ hm hk h
end

end Go.Proofs.Ytldagbcceefcdaa

/- part Sub -/
/- Parts of slices; elements of a list of slices of a call's own. No program in sight. -/
namespace Go.Proofs.Ytldagbcceefcdaa
set_option linter.unusedVariables false
set_option linter.unusedSimpArgs false
open Go.RowKit Go.Proofs

/-- The elements from lo on, up to hi; each of k cells. -/
def sub2 (k : Nat) : Value → Nat → Nat → Value
  | .slice p _ c, lo, hi => .slice (if c = lo then p else p.map (·.add (lo * k))) (hi - lo) (c - lo)
  | v, _, _ => v
/-- The same, with no more room than mx. -/
def sub3 (k : Nat) : Value → Nat → Nat → Nat → Value
  | .slice p _ _, lo, hi, mx => .slice (if mx = lo then p else p.map (·.add (lo * k))) (hi - lo) (mx - lo)
  | v, _, _, _ => v
theorem SlC.sub2 {u : World} {v : Value} {n k : Nat} {flat : List Value} (h : SlC u v n k flat) {lo hi : Nat} (h0 : lo ≤ hi) (h1 : hi ≤ n) : SlC u (Go.Proofs.Ytldagbcceefcdaa.sub2 k v lo hi) (hi - lo) k ((flat.drop (lo * k)).take ((hi - lo) * k)) := by
  obtain ⟨hl, p, cap, rfl, hc, hp⟩ := h
  have e : ((flat.drop (lo * k)).take ((hi - lo) * k)).length = (hi - lo) * k := by
    have h2 : (hi - lo) * k ≤ n * k - lo * k := by rw [← Nat.sub_mul]; exact Nat.mul_le_mul_right _ (by omega)
    simp [hl]; omega
  refine ⟨e, _, _, rfl, by omega, ?_⟩
  rcases hp with hn | ⟨b, o, rfl, hcell⟩
  · left; omega
  · by_cases hcl : cap = lo
    · left; omega
    · right
      refine ⟨b, o + lo * k, by rw [if_neg hcl]; simp [addr_add], fun m x hm => ?_⟩
      rw [List.getElem?_take] at hm
      split at hm
      · rw [List.getElem?_drop] at hm
        rw [Nat.add_assoc]
        exact hcell _ x hm
      · simp at hm
theorem SlI.sub2 {u : World} {v : Value} {xs : List Int} (h : SlI u v xs) {lo hi : Nat} (h0 : lo ≤ hi) (h1 : hi ≤ xs.length) : SlI u (Go.Proofs.Ytldagbcceefcdaa.sub2 1 v lo hi) ((xs.drop lo).take (hi - lo)) := by
  have := SlC.sub2 h h0 h1
  have e : ((xs.drop lo).take (hi - lo)).length = hi - lo := by simp; omega
  unfold SlI
  rw [e]
  simpa [List.map_take, List.map_drop] using this
theorem nth_dt {α : Type} [Inhabited α] {xs : List α} {lo m : Nat} {i : Int} (h0 : 0 ≤ i) (h1 : i < m) : nth ((xs.drop lo).take m) i = nth xs (lo + i) := by
  have e : ((lo : Int) + i).toNat = lo + i.toNat := by omega
  have e2 : i.toNat < m := by omega
  simp [nth, List.getD, List.getElem?_take, List.getElem?_drop, e, e2]
theorem SlL.sub2 {u : World} {v : Value} {xss : List (List Int)} {gs : List Value} (h : SlL u v xss gs) {lo hi : Nat} (h0 : lo ≤ hi) (h1 : hi ≤ xss.length) : SlL u (Go.Proofs.Ytldagbcceefcdaa.sub2 1 v lo hi) ((xss.drop lo).take (hi - lo)) ((gs.drop lo).take (hi - lo)) := by
  have e : ((xss.drop lo).take (hi - lo)).length = hi - lo := by simp; omega
  refine ⟨?_, fun i h2 h3 => ?_⟩
  · have := SlC.sub2 h.sp h0 h1
    rw [e]
    simpa using this
  · rw [e] at h3
    rw [nth_dt h2 h3, nth_dt h2 h3]
    exact h.el _ (by omega) (by omega)
theorem flat_dt {α : Type} (k : Nat) : ∀ (L : List (List α)) (lo : Nat), (∀ x ∈ L, x.length = k) → L.flatten.drop (lo * k) = (L.drop lo).flatten
  | [], lo, _ => by simp
  | x :: L, 0, _ => by simp
  | x :: L, lo + 1, h => by
    have hx := h x (by simp)
    have e : (lo + 1) * k = x.length + lo * k := by rw [hx, Nat.succ_mul, Nat.add_comm]
    simp only [List.flatten_cons, List.drop_succ_cons, e]
    rw [List.drop_append]
    have e2 : x.drop (x.length + lo * k) = [] := List.drop_eq_nil_of_le (by omega)
    rw [e2, List.nil_append]
    have e3 : x.length + lo * k - x.length = lo * k := by omega
    rw [e3, flat_dt k L lo fun y hy => h y (by simp [hy])]
theorem flat_tk {α : Type} (k : Nat) : ∀ (L : List (List α)) (m : Nat), (∀ x ∈ L, x.length = k) → L.flatten.take (m * k) = (L.take m).flatten
  | [], m, _ => by simp
  | x :: L, 0, _ => by simp
  | x :: L, m + 1, h => by
    have hx := h x (by simp)
    have e : (m + 1) * k = x.length + m * k := by rw [hx, Nat.succ_mul, Nat.add_comm]
    simp only [List.flatten_cons, List.take_succ_cons, e]
    rw [List.take_append]
    have e2 : x.take (x.length + m * k) = x := List.take_of_length_le (by omega)
    have e3 : x.length + m * k - x.length = m * k := by omega
    rw [e2, e3, flat_tk k L m fun y hy => h y (by simp [hy])]
theorem clFlat_dt {cs : List Clue} {gs : List Value} (lo m : Nat) : ((clFlat cs gs).drop (lo * 7)).take (m * 7) = clFlat ((cs.drop lo).take m) ((gs.drop lo).take m) := by
  have h7 : ∀ x ∈ List.zipWith clCells cs gs, x.length = 7 := by intro x hx; obtain ⟨n, hn, rfl⟩ := List.getElem_of_mem hx; simp [clCells]
  unfold clFlat
  rw [flat_dt 7 _ lo h7, flat_tk 7 _ m fun x hx => h7 x (List.mem_of_mem_drop hx)]
  rw [List.drop_zipWith, List.take_zipWith]
theorem ClS.sub2 {u : World} {v : Value} {cs : List Clue} {gs : List Value} (h : ClS u v cs gs) {lo hi : Nat} (h0 : lo ≤ hi) (h1 : hi ≤ cs.length) : ClS u (Go.Proofs.Ytldagbcceefcdaa.sub2 7 v lo hi) ((cs.drop lo).take (hi - lo)) ((gs.drop lo).take (hi - lo)) := by
  have e : ((cs.drop lo).take (hi - lo)).length = hi - lo := by simp; omega
  refine ⟨?_, by simp [h.len], fun i h2 h3 => ?_⟩
  · have := SlC.sub2 h.sp h0 h1
    rw [e]
    rwa [clFlat_dt] at this
  · rw [e] at h3
    rw [nth_dt h2 h3, nth_dt h2 h3]
    exact h.el _ (by omega) (by omega)

section
variable {P : Program} {ro : Option Nat} {n0 : Nat} {w0 : World} {ds : List Deferred} {ops : Array Oper} {Q : Exit → Act → World → Prop} {L : List SA}
  {rest : List Oper} {l : List Value} {d : Option Tmp} {ty : TypeId} {ps : String} {af : Array Edge} {g : Option (Nat × Bool)} {C : World → Prop}
theorem det_slTo {T e : TypeId} {k by_ : Nat} {x z : Operand} {v : Value} {n k' : Nat} {flat : List Value} {hi : Int} {w : World} (hT : sl P T = some (e, k, by_)) (hx : evo l x = some v) (hz : evo l z = some (.int .i64 hi))
    (hs : SlC w v n k' flat) (h1 : 0 ≤ hi) (h2 : hi ≤ n) : Det P C ⟨d, .slice T x none (some z) none, ty, ps, af, g⟩ l (sub2 k v 0 hi.toNat) := fun u _ => by
  obtain ⟨inf, hu, hi', hk, _⟩ := sl_spec hT
  obtain ⟨_, p, cap, rfl, hc, _⟩ := hs
  replace hx := ev_of hx
  replace hz := ev_of hz
  have e1 : (0 ≤ hi ∧ hi ≤ (cap : Int)) := by omega
  have e3 : 0 ≤ max hi 0 := by omega
  have e4 : Option.map (fun x : Addr => x.add 0) p = p := by
    cases p with
    | none => rfl
    | some a => simp [Addr.add]
  simp [execOp, DetUpon, hx, hz, Instr.sliceAt, Instr.slice, Instr.sliceBounds, Instr.sliceBound, asIntOf, run_underlying hu, e1, e3, sizeOf, typeInfo, hi', hk, sub2]
theorem det_slFrom {T e : TypeId} {k by_ : Nat} {x y : Operand} {v : Value} {n k' : Nat} {flat : List Value} {lo : Int} {w : World} (hT : sl P T = some (e, k, by_)) (hx : evo l x = some v) (hy : evo l y = some (.int .i64 lo))
    (hs : SlC w v n k' flat) (h1 : 0 ≤ lo) (h2 : lo ≤ n) : Det P C ⟨d, .slice T x (some y) none none, ty, ps, af, g⟩ l (sub2 k v lo.toNat n) := fun u _ => by
  obtain ⟨inf, hu, hi', hk, _⟩ := sl_spec hT
  obtain ⟨_, p, cap, rfl, hc, _⟩ := hs
  replace hx := ev_of hx
  replace hy := ev_of hy
  have e1 : (0 ≤ lo ∧ lo ≤ (n : Int)) := by omega
  simp [execOp, DetUpon, hx, hy, Instr.sliceAt, Instr.slice, Instr.sliceBounds, Instr.sliceBound, asIntOf, run_underlying hu, e1, sizeOf, typeInfo, hi', hk, sub2]
theorem det_slPart {T e : TypeId} {k by_ : Nat} {x y z : Operand} {v : Value} {n k' : Nat} {flat : List Value} {lo hi : Int} {w : World} (hT : sl P T = some (e, k, by_)) (hx : evo l x = some v) (hy : evo l y = some (.int .i64 lo)) (hz : evo l z = some (.int .i64 hi))
    (hs : SlC w v n k' flat) (h0 : 0 ≤ lo) (h1 : lo ≤ hi) (h2 : hi ≤ n) : Det P C ⟨d, .slice T x (some y) (some z) none, ty, ps, af, g⟩ l (sub2 k v lo.toNat hi.toNat) := fun u _ => by
  obtain ⟨inf, hu, hi', hk, _⟩ := sl_spec hT
  obtain ⟨_, p, cap, rfl, hc, _⟩ := hs
  replace hx := ev_of hx
  replace hy := ev_of hy
  replace hz := ev_of hz
  have e1 : (0 ≤ hi ∧ hi ≤ (cap : Int)) := by omega
  have e2 : (0 ≤ lo ∧ lo ≤ ((hi.toNat : Nat) : Int)) := by omega
  have e3 : lo ≤ max hi 0 := by omega
  simp [execOp, DetUpon, hx, hy, hz, Instr.sliceAt, Instr.slice, Instr.sliceBounds, Instr.sliceBound, asIntOf, run_underlying hu, e1, e2, e3, sizeOf, typeInfo, hi', hk, sub2]
theorem det_slPart3 {T e : TypeId} {k by_ : Nat} {x y z m : Operand} {v : Value} {n k' : Nat} {flat : List Value} {lo hi mx : Int} {w : World} (hT : sl P T = some (e, k, by_)) (hx : evo l x = some v) (hy : evo l y = some (.int .i64 lo)) (hz : evo l z = some (.int .i64 hi))
    (hm : evo l m = some (.int .i64 mx)) (hs : SlC w v n k' flat) (h0 : 0 ≤ lo) (h1 : lo ≤ hi) (h2 : hi ≤ mx) (h3 : mx ≤ n) : Det P C ⟨d, .slice T x (some y) (some z) (some m), ty, ps, af, g⟩ l (sub3 k v lo.toNat hi.toNat mx.toNat) := fun u _ => by
  obtain ⟨inf, hu, hi', hk, _⟩ := sl_spec hT
  obtain ⟨_, p, cap, rfl, hc, _⟩ := hs
  replace hx := ev_of hx
  replace hy := ev_of hy
  replace hz := ev_of hz
  replace hm := ev_of hm
  have e1 : (0 ≤ mx ∧ mx ≤ (cap : Int)) := by omega
  have e2 : (0 ≤ lo ∧ lo ≤ ((hi.toNat : Nat) : Int)) := by omega
  have e3 : lo ≤ max hi 0 := by omega
  have e4 : (0 ≤ hi ∧ hi ≤ ((mx.toNat : Nat) : Int)) := by omega
  have e5 : hi ≤ max mx 0 := by omega
  simp [execOp, DetUpon, hx, hy, hz, hm, Instr.sliceAt, Instr.slice, Instr.sliceBounds, Instr.sliceBound, asIntOf, run_underlying hu, e1, e2, e3, e4, e5, h0, sizeOf, typeInfo, hi', hk, sub3]
theorem sub3_SlC {k : Nat} {v : Value} {n k' : Nat} {flat : List Value} {u w : World} (hs : SlC w v n k' flat) (h : SlC u v n k flat) {lo hi mx : Nat} (h0 : lo ≤ hi) (h1 : hi ≤ mx) (h2 : mx ≤ n) :
    SlC u (sub3 k v lo hi mx) (hi - lo) k ((flat.drop (lo * k)).take ((hi - lo) * k)) := by
  obtain ⟨hl, p, cap, rfl, hc, hp⟩ := h
  have e : ((flat.drop (lo * k)).take ((hi - lo) * k)).length = (hi - lo) * k := by
    have h2 : (hi - lo) * k ≤ n * k - lo * k := by rw [← Nat.sub_mul]; exact Nat.mul_le_mul_right _ (by omega)
    simp [hl]; omega
  refine ⟨e, _, _, rfl, by omega, ?_⟩
  rcases hp with hn | ⟨b, o, rfl, hcell⟩
  · left; omega
  · by_cases hcl : mx = lo
    · left; omega
    · right
      refine ⟨b, o + lo * k, by rw [if_neg hcl]; simp [addr_add], fun m x hm => ?_⟩
      rw [List.getElem?_take] at hm
      split at hm
      · rw [List.getElem?_drop] at hm
        rw [Nat.add_assoc]
        exact hcell _ x hm
      · simp at hm

/-! ### an element of a list of slices grows -/
theorem eraseIdx_map' {α β : Type} (f : α → β) : ∀ (l : List α) (i : Nat), (l.map f).eraseIdx i = (l.eraseIdx i).map f
  | [], _ => by simp
  | _ :: _, 0 => by simp
  | x :: l, i + 1 => by simp [eraseIdx_map' f l i]
theorem loi_perm {e : TypeId} {pl : List (Value × List Int)} {i : Nat} {p : Value × List Int} (h : pl[i]? = some p) : (loi e pl).Perm (oints e p.1 p.2 :: loi e (pl.eraseIdx i)) := by
  have h1 : (loi e pl)[i]? = some (oints e p.1 p.2) := by simp [loi, h]
  have h2 := perm_erase h1
  have h3 : (loi e pl).eraseIdx i = loi e (pl.eraseIdx i) := by simp [loi, eraseIdx_map']
  rwa [h3] at h2
theorem St.focus {e : TypeId} {pl : List (Value × List Int)} {i j : Nat} {p : Value × List Int} (hj : L[j]? = some (Go.Proofs.Ytldagbcceefcdaa.star (loi e pl))) (h : pl[i]? = some p) {u : World} :
    St n0 w0 L u ↔ St n0 w0 (oints e p.1 p.2 :: Go.Proofs.Ytldagbcceefcdaa.star (loi e (pl.eraseIdx i)) :: L.eraseIdx j) u := by
  constructor
  · intro hu
    have h1 := (hu.perm (perm_erase hj)).unpack
    have h2 := h1.perm (List.Perm.append_right _ (loi_perm h))
    exact ((h2.perm (List.perm_middle (l₁ := loi e (pl.eraseIdx i))).symm).pack).perm (.swap _ _ _)
  · intro hu
    have h1 := (hu.perm (.swap _ _ _)).unpack
    have h2 := h1.perm (List.perm_middle (l₁ := loi e (pl.eraseIdx i)))
    have h3 : St n0 w0 ((oints e p.1 p.2 :: loi e (pl.eraseIdx i)) ++ L.eraseIdx j) u := h2
    exact ((h3.perm (List.Perm.append_right _ (loi_perm h).symm)).pack).perm (perm_erase hj).symm
theorem WS.appendAt {T e : TypeId} {by_ t j i : Nat} {x y : Operand} {p : Value × List Int} {z : Value} {ys : List Int} {pl : List (Value × List Int)} (hT : sl P T = some (e, 1, by_)) (hz : zv P e = some [.int .i64 0])
    (hx : evo l x = some p.1) (hj : L[j]? = some (star (loi e pl))) (hi : pl[i]? = some p) (hy : evo l y = some z) (hn : ∀ u, St n0 w0 L u → SlI u z ys)
    (hb : (p.2.length + ys.length) * by_ ≤ 140737488355328) (hm : p.2.length + ys.length ≤ 9223372036854775807)
    {l' : Value → List Value} (hl : ∀ v, lset l t v = some (l' v)) {L' : Value → List SA} (hL : ∀ v', lset L j (star (loi e (pl.set i (v', p.2 ++ ys)))) = some (L' v')) (k : ∀ v', v'.oneCell' = true → WS P ro n0 w0 ds ops Q (L' v') rest (l' v')) :
    WS P ro n0 w0 ds ops Q L (⟨some t, .call ⟨.builtin .append, #[x, y], #[T, T]⟩, ty, ps, af, none⟩ :: rest) l := by
  refine WS.weak (fun u hu => (St.focus hj hi).1 hu) ?_
  refine WS.appendI (j := 0) hT hz hx rfl hy (fun u hu => hn u ((St.focus hj hi).2 hu)) hb hm hl (fun _ => rfl) fun v' => ?_
  refine WS.oc (j := 0) rfl fun hv => ?_
  refine WS.weak (fun u hu => ?_) (k v' hv)
  have hjl := (List.getElem?_eq_some_iff.1 hj).1
  have hil := (List.getElem?_eq_some_iff.1 hi).1
  have h1 : L' v' = L.set j (star (loi e (pl.set i (v', p.2 ++ ys)))) := (lset_of (hL v')).symm
  rw [h1]
  have a1 : (L.set j (Go.Proofs.Ytldagbcceefcdaa.star (loi e (pl.set i (v', p.2 ++ ys)))))[j]? = some (Go.Proofs.Ytldagbcceefcdaa.star (loi e (pl.set i (v', p.2 ++ ys)))) := List.getElem?_set_self hjl
  have a2 : (pl.set i (v', p.2 ++ ys))[i]? = some (v', p.2 ++ ys) := List.getElem?_set_self hil
  refine (St.focus a1 a2).2 ?_
  have e1 : (pl.set i (v', p.2 ++ ys)).eraseIdx i = pl.eraseIdx i := List.eraseIdx_set_eq ..
  have e2 : (L.set j (star (loi e (pl.set i (v', p.2 ++ ys))))).eraseIdx j = L.eraseIdx j := List.eraseIdx_set_eq ..
  rw [e1, e2]
  exact hu
theorem St.nils {e : TypeId} {u : World} (h : St n0 w0 L u) : ∀ n : Nat, St n0 w0 (Go.Proofs.Ytldagbcceefcdaa.star (loi e (List.replicate n (.slice none 0 0, []))) :: L) u
  | 0 => St.pack (L1 := []) h
  | n + 1 => by
    have h1 := (St.nils (e := e) h n).unpack
    have h2 := h1.osl0 (e := e) (size := 1)
    exact St.pack (L1 := loi e (List.replicate (n + 1) (.slice none 0 0, []))) h2
theorem det_indexArr {T e : TypeId} {n : Nat} {x y : Operand} {cs : List Value} {i : Int} {v : Value} (hT : P.underlying T = some (.array n e)) (he : tk P e = some (false, 1)) (hx : evo l x = some (.agg cs.toArray)) (hy : evo l y = some (.int .i64 i))
    (h0 : 0 ≤ i) (h1 : i < n) (hv : cs[i.toNat]? = some v) : Det P C ⟨d, .index T x y, ty, ps, af, g⟩ l v := fun u _ => by
  replace hx := ev_of hx
  replace hy := ev_of hy
  have h2 := (tk_spec he u).1
  have h3 := (tk_spec he u).2
  have hlt : i.toNat < cs.length := (List.getElem?_eq_some_iff.1 hv).1
  have hv2 : cs[i.toNat] = v := (List.getElem?_eq_some_iff.1 hv).2
  simp [execOp, DetUpon, hx, hy, Instr.index, asIntOf, run_underlying hT, h0, h1, Go.part, h2, h3, hlt, hv2]
theorem det_loadbK {T : TypeId} {x : Operand} {b i n : Nat} {c cs : List Value} {e : TypeId} {j : Nat} (hx : evo l x = some (.pointer (some ⟨b, i, none⟩))) (hj : L[j]? = some (blk b c e)) (hv : (c.drop i).take n = cs) (hn : cs.length = n) (hT : tk P T = some (true, n)) :
    Det P (St n0 w0 L) ⟨d, .load T x, ty, ps, af, g⟩ l (.agg cs.toArray) := by
  subst hn
  exact det_loadbN hx hj hv hT
theorem WS.makeLists {T te e : TypeId} {by_ i : Nat} {x y : Operand} {n : Int} (hT : sl P T = some (te, 1, by_)) (hx : evo l x = some (.int .i64 n)) (hy : evo l y = some (.int .i64 n)) (hz : zv P te = some [.slice none 0 0])
    (h0 : 0 ≤ n) (hb : (by_ : Int) * n ≤ 281474976710656) (hm : n ≤ 9223372036854775807)
    {l' : Value → List Value} (hl : ∀ v, lset l i v = some (l' v)) (k : ∀ v, WS P ro n0 w0 ds ops Q (osl te 1 v ((List.replicate n.toNat ((Value.slice none 0 0, []) : Value × List Int)).map (·.1)).length ((List.replicate n.toNat ((Value.slice none 0 0, []) : Value × List Int)).map (·.1)) :: star (loi e (List.replicate n.toNat (.slice none 0 0, []))) :: L) rest (l' v)) :
    WS P ro n0 w0 ds ops Q L (⟨some i, .makeSlice T x y, ty, ps, af, none⟩ :: rest) l := by
  refine WS.weak (fun u hu => St.nils (e := e) hu n.toNat) ?_
  refine WS.makeSlice (z := e) hT hx hy hz rfl h0 rfl hb hm hl fun v => ?_
  have := k v
  have e1 : (List.replicate n.toNat [Value.slice none 0 0]).flatten = (List.replicate n.toNat ((Value.slice none 0 0, []) : Value × List Int)).map (·.1) := by
    generalize n.toNat = m
    induction m with
    | zero => rfl
    | succ m ih => simp [List.replicate_succ]
  rw [e1]
  simpa using this
end
end Go.Proofs.Ytldagbcceefcdaa

