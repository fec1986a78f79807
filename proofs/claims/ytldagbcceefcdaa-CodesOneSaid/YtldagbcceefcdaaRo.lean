/- Memory that is only read on; parts picked out; lists of slices of a call's own; nil slices. No program in sight. -/
import Derived.Test.YtldagbcceefcdaaOwn
import Derived.Test.YtldagbcceefcdaaClue
import Derived.Lib.LazyBuf
namespace Go.Proofs.Ytldagbcceefcdaa
set_option linter.unusedVariables false
set_option linter.unusedSimpArgs false
open Go.RowKit Go.Proofs

/-- A word on memory that stands as long as the blocks of the footprint stand. -/
def roS (p : World → Prop) : SA where
  h S u := (∀ u', KeepC S u u' → p u') ∧ ∀ k, S k → k < u.heap.size
  loc S u u' h hk := ⟨fun u'' h2 => h.1 u'' (fun k hS o ho => h2 k hS o (hk k hS o ho)), fun k hS => hk.lt hS (h.2 k hS)⟩
  dom S u k h hS := h.2 k hS
theorem roS.now {p : World → Prop} {S : Nat → Prop} {u : World} (h : (roS p).h S u) : p u := h.1 u (fun _ _ _ h => h)
theorem Star.ro {L : List SA} {S : Nat → Prop} {u : World} {p : World → Prop} {j : Nat} (hj : L[j]? = some (roS p)) (h : Star L S u) : p u := by
  obtain ⟨T, _, h2⟩ := h.get hj
  exact roS.now h2

section
variable {n0 : Nat} {w0 u : World} {L : List SA}
theorem St.ro {p : World → Prop} {j : Nat} (hj : L[j]? = some (roS p)) (h : St n0 w0 L u) : p u := h.star.ro hj
/-- A part is forgotten but for what is read in it. -/
theorem St.toRo {A : SA} {p : World → Prop} (hp : ∀ S u, A.h S u → p u) (h : St n0 w0 (A :: L) u) : St n0 w0 (roS p :: L) u := by
  obtain ⟨h1, h2, T, h3, h4, h5⟩ := h
  exact ⟨h1, h2, T, h3, ⟨fun u' hk => hp T u' (A.loc T u u' h4 hk), fun k hS => A.dom T u k h4 hS⟩, h5⟩
theorem St.osl0 {e : TypeId} {size : Nat} (h : St n0 w0 L u) : St n0 w0 (osl e size (.slice none 0 0) 0 [] :: L) u :=
  ⟨h.le, h.below, fun _ => False, fun _ h => h.elim, ⟨fun k => by simp [Value.ownBlock], World.ownsRow_nil u 0 e size⟩, h.star.sup fun _ h => ⟨h, fun h => h⟩⟩
theorem St.snoc {L0 : List SA} {A : SA} (h : St n0 w0 (Go.Proofs.Ytldagbcceefcdaa.star L0 :: A :: L) u) : St n0 w0 (Go.Proofs.Ytldagbcceefcdaa.star (L0 ++ [A]) :: L) u := by
  have h1 := h.unpack
  have e : L0 ++ A :: L = (L0 ++ [A]) ++ L := by simp
  rw [e] at h1
  exact h1.pack
/-- Parts picked out one after another; each number counts in what is left. -/
def selo : List SA → List Nat → Option (List SA)
  | _, [] => some []
  | L, i :: is => match L[i]?, lera L i with
    | some a, some L1 => match selo L1 is with
      | some r => some (a :: r)
      | none => none
    | _, _ => none
theorem lera_erase : ∀ {L : List SA} {i : Nat} {L1 : List SA}, lera L i = some L1 → L1 = L.eraseIdx i
  | [], i, L1, h => by simp [lera] at h; subst h; simp
  | x :: L, 0, L1, h => by simp [lera] at h; subst h; simp
  | x :: L, i + 1, L1, h => by
    unfold lera at h
    split at h
    · rename_i r hr
      simp at h
      subst h
      simp [lera_erase hr]
    · simp at h
theorem perm_erase : ∀ {L : List SA} {i : Nat} {a : SA}, L[i]? = some a → L.Perm (a :: L.eraseIdx i)
  | [], _, _, h => by simp at h
  | x :: L, 0, a, h => by simp at h; subst h; simp
  | x :: L, i + 1, a, h => by
    have := perm_erase (L := L) (i := i) (by simpa using h)
    simp only [List.eraseIdx_cons_succ]
    exact (this.cons x).trans (.swap _ _ _)
theorem Star.sel : ∀ {is : List Nat} {L L' : List SA} {S : Nat → Prop} {u : World}, selo L is = some L' → Star L S u → Star L' S u
  | [], L, L', S, u, h, hs => by simp [selo] at h; subst h; trivial
  | i :: is, L, L', S, u, h, hs => by
    unfold selo at h
    split at h
    · rename_i a L1 h1 h2
      split at h
      · rename_i r hr
        simp at h
        subst h
        have h3 := lera_erase h2
        subst h3
        obtain ⟨T, hT, hA, hL⟩ := hs.perm (perm_erase h1)
        exact ⟨T, hT, hA, Star.sel hr hL⟩
      · simp at h
    · simp at h
theorem St.sel (is : List Nat) {L' : List SA} (he : selo L is = some L') (h : St n0 w0 L u) : St n0 w0 L' u := ⟨h.le, h.below, h.star.sel he⟩
/-- A result in memory that the call made. -/
theorem retR {v : Value} {p : World → Prop} (hp : ∀ S u, Star L S u → p u) : ∀ u, St w0.heap.size w0 L u → RetF w0 v (roS p) (.returned v) u := fun u hu =>
  ⟨rfl, hu.below, fun k => w0.heap.size ≤ k ∧ k < u.heap.size, ⟨fun u' hk => hp _ u' (hu.star.keep (S' := fun k => w0.heap.size ≤ k ∧ k < u.heap.size) (fun k h o ho => hk k ⟨h, (Array.getElem?_eq_some_iff.1 ho).1⟩ o ho) fun k h1 h2 => ⟨h1, h2⟩), fun k h => h.2⟩, fun k h => h.1⟩
end

/-- Read-only parts of the usual kinds. -/
def roI (v : Value) (xs : List Int) : SA := roS fun u => SlI u v xs
def roL (v : Value) (xss : List (List Int)) (gs : List Value) : SA := roS fun u => SlL u v xss gs
def roC (v : Value) (cs : List Clue) (gs : List Value) : SA := roS fun u => ClS u v cs gs
section
variable {n0 : Nat} {w0 u : World} {L : List SA} {j : Nat} {v : Value}
theorem St.roI {xs : List Int} (hj : L[j]? = some (Go.Proofs.Ytldagbcceefcdaa.roI v xs)) (h : St n0 w0 L u) : SlI u v xs := h.ro hj
theorem St.roL {xss : List (List Int)} {gs : List Value} (hj : L[j]? = some (Go.Proofs.Ytldagbcceefcdaa.roL v xss gs)) (h : St n0 w0 L u) : SlL u v xss gs := h.ro hj
theorem St.roC {cs : List Clue} {gs : List Value} (hj : L[j]? = some (Go.Proofs.Ytldagbcceefcdaa.roC v cs gs)) (h : St n0 w0 L u) : ClS u v cs gs := h.ro hj
end

theorem Star.oints {L : List SA} {S : Nat → Prop} {u : World} {e : TypeId} {v : Value} {xs : List Int} {j : Nat} (hj : L[j]? = some (Go.Proofs.Ytldagbcceefcdaa.oints e v xs)) (h : Star L S u) : SlI u v xs := by
  obtain ⟨T, _, h2⟩ := h.get hj
  exact ownsRow_SlC h2.2
theorem Star.osl {L : List SA} {S : Nat → Prop} {u : World} {e : TypeId} {k n : Nat} {v : Value} {xs : List Value} {j : Nat} (hj : L[j]? = some (Go.Proofs.Ytldagbcceefcdaa.osl e k v n xs)) (h : Star L S u) : SlC u v n k xs := by
  obtain ⟨T, _, h2⟩ := h.get hj
  exact ownsRow_SlC h2.2
/-- Slices of ints of the call's own, one for each of a list. -/
def loi (e : TypeId) (ps : List (Value × List Int)) : List SA := ps.map fun p => Go.Proofs.Ytldagbcceefcdaa.oints e p.1 p.2
/-- A slice of such slices. -/
def oll (te e : TypeId) (v : Value) (ps : List (Value × List Int)) : SA := star [Go.Proofs.Ytldagbcceefcdaa.osl te 1 v (ps.map (·.1)).length (ps.map (·.1)), star (loi e ps)]
theorem Star.ollSlL {te e : TypeId} {v : Value} {ps : List (Value × List Int)} {L : List SA} {S : Nat → Prop} {u : World} (h : Star (Go.Proofs.Ytldagbcceefcdaa.osl te 1 v (ps.map (·.1)).length (ps.map (·.1)) :: star (loi e ps) :: L) S u) : SlL u v (ps.map (·.2)) (ps.map (·.1)) := by
  have h1 := Star.osl (j := 0) rfl h
  obtain ⟨T, _, h2⟩ := h.get (j := 1) rfl
  refine ⟨by simpa using h1, fun i h0 hi => ?_⟩
  have hlt : i.toNat < ps.length := by simp at hi; omega
  have := Star.oints (j := i.toNat) (e := e) (v := (ps[i.toNat]).1) (xs := (ps[i.toNat]).2) (by simp [loi, hlt]) h2.1
  simpa [nth, List.getD, hlt] using this
/-- A slice of slices that is given back. -/
theorem retL {te e : TypeId} {v : Value} {ps : List (Value × List Int)} {L : List SA} {w0 : World} {xss : List (List Int)} {f : Value → Value} (hx : ps.map (·.2) = xss) :
    ∀ u, St w0.heap.size w0 (Go.Proofs.Ytldagbcceefcdaa.osl te 1 v (ps.map (·.1)).length (ps.map (·.1)) :: star (loi e ps) :: L) u → ∃ x : Value × List Value, (∃ u0, SlL u0 x.1 xss x.2) ∧ RetF w0 (f x.1) (roL x.1 xss x.2) (.returned (f v)) u := fun u hu => by
  subst hx
  exact ⟨(v, ps.map (·.1)), ⟨u, hu.star.ollSlL⟩, retR (fun _ _ hs => hs.ollSlL) u hu⟩
theorem retLnil {L : List SA} {w0 : World} {f : Value → Value} : 
    ∀ u, St w0.heap.size w0 L u → ∃ x : Value × List Value, (∃ u0, SlL u0 x.1 [] x.2) ∧ RetF w0 (f x.1) (roL x.1 [] x.2) (.returned (f (.slice none 0 0))) u := fun u hu => by
  have h : ∀ u, SlL u (.slice none 0 0) [] [] := fun u => ⟨⟨by simp, none, 0, rfl, by simp, Or.inl rfl⟩, fun i h0 h1 => by simp at h1; omega⟩
  exact ⟨(.slice none 0 0, []), ⟨u, h u⟩, retR (fun _ u _ => h u) u hu⟩

section
variable {w0 : World} {L : List SA} {f : Value → Value} {t : Value}
theorem retLe {te e : TypeId} {v : Value} {ps : List (Value × List Int)} {xss : List (List Int)} (hx : ps.map (·.2) = xss) (hf : t = f v) :
    ∀ u, St w0.heap.size w0 (Go.Proofs.Ytldagbcceefcdaa.osl te 1 v (ps.map (·.1)).length (ps.map (·.1)) :: star (loi e ps) :: L) u → ∃ x : Value × List Value, (∃ u0, SlL u0 x.1 xss x.2) ∧ RetF w0 (f x.1) (roL x.1 xss x.2) (.returned t) u := by
  subst hf; exact retL hx
theorem retLne {xss : List (List Int)} (hx : [] = xss) (hf : t = f (.slice none 0 0)) : ∀ u, St w0.heap.size w0 L u → ∃ x : Value × List Value, (∃ u0, SlL u0 x.1 xss x.2) ∧ RetF w0 (f x.1) (roL x.1 xss x.2) (.returned t) u := by
  subst hf; subst hx; exact retLnil
/-- A list that is read in part j. -/
theorem retLr {xss yss : List (List Int)} {gs : List Value} {j : Nat} {v : Value} (hj : L[j]? = some (roL v yss gs)) (hx : yss = xss) (hf : t = f v) : ∀ u, St w0.heap.size w0 L u → ∃ x : Value × List Value, (∃ u0, SlL u0 x.1 xss x.2) ∧ RetF w0 (f x.1) (roL x.1 xss x.2) (.returned t) u := by
  subst hf; subst hx
  exact fun u hu => ⟨(v, gs), ⟨u, hu.roL hj⟩, retR (fun _ _ hs => hs.ro hj) u hu⟩
theorem retLp {xss : List (List Int)} {gs : List Value} {v : Value} (hp : ∀ S u, Star L S u → SlL u v xss gs) (hf : t = f v) : ∀ u, St w0.heap.size w0 L u → ∃ x : Value × List Value, (∃ u0, SlL u0 x.1 xss x.2) ∧ RetF w0 (f x.1) (roL x.1 xss x.2) (.returned t) u := by
  subst hf
  exact fun u hu => ⟨(v, gs), ⟨u, hp _ _ hu.star⟩, retR hp u hu⟩
theorem retIe {e : TypeId} {v : Value} {xs ys : List Int} {j : Nat} (hj : L[j]? = some (oints e v ys)) (hx : ys = xs) (hf : t = f v) :
    ∀ u, St w0.heap.size w0 L u → ∃ x : Value, (∃ u0, SlI u0 x xs) ∧ RetF w0 (f x) (roI x xs) (.returned t) u := by
  subst hx; subst hf
  exact fun u hu => ⟨v, ⟨u, oints_SlI hu hj⟩, retR (fun _ _ hs => hs.oints hj) u hu⟩
theorem retIp {v : Value} {xs : List Int} (hp : ∀ S u, Star L S u → SlI u v xs) (hf : t = f v) :
    ∀ u, St w0.heap.size w0 L u → ∃ x : Value, (∃ u0, SlI u0 x xs) ∧ RetF w0 (f x) (roI x xs) (.returned t) u := by
  subst hf
  exact fun u hu => ⟨v, ⟨u, hp _ _ hu.star⟩, retR hp u hu⟩
theorem retIq {v : Value} {xs ys : List Int} (hp : ∀ S u, Star L S u → SlI u v ys) (hx : ys = xs) (hf : t = f v) :
    ∀ u, St w0.heap.size w0 L u → ∃ x : Value, (∃ u0, SlI u0 x xs) ∧ RetF w0 (f x) (roI x xs) (.returned t) u := by
  subst hx; exact retIp hp hf
theorem retIn {xs : List Int} (hx : [] = xs) (hf : t = f (.slice none 0 0)) :
    ∀ u, St w0.heap.size w0 L u → ∃ x : Value, (∃ u0, SlI u0 x xs) ∧ RetF w0 (f x) (roI x xs) (.returned t) u := by
  subst hx
  exact retIp (fun _ u _ => ⟨by simp, none, 0, rfl, by simp, Or.inl rfl⟩) hf
end

section
variable {P : Program} {ro : Option Nat} {n0 : Nat} {w0 : World} {ds : List Deferred} {ops : Array Oper} {Q : Exit → Act → World → Prop} {L : List SA}
  {rest : List Oper} {l : List Value} {d : Option Tmp} {ty : TypeId} {ps : String} {af : Array Edge} {g : Option (Nat × Bool)} {C : World → Prop} {fuel : Nat} {bl : List Bool}

theorem CS.weak {L' : List SA} {c : Code} (h : ∀ u, St n0 w0 L u → St n0 w0 L' u) (k : CS P ro n0 w0 ds c Q L' l) : CS P ro n0 w0 ds c Q L l := fun u hu => k u (h u hu)
theorem WS.weak {L' : List SA} (h : ∀ u, St n0 w0 L u → St n0 w0 L' u) (k : WS P ro n0 w0 ds ops Q L' rest l) : WS P ro n0 w0 ds ops Q L rest l := fun u hu => k u (h u hu)
theorem QS.weak {L' : List SA} {e : Exit} (h : ∀ u, St n0 w0 L u → St n0 w0 L' u) (k : QS n0 w0 ds Q e L' l) : QS n0 w0 ds Q e L l := fun u hu => k u (h u hu)
theorem CS.sel (is : List Nat) {L' : List SA} {c : Code} (he : selo L is = some L') (k : CS P ro n0 w0 ds c Q L' l) : CS P ro n0 w0 ds c Q L l := fun u hu => k u (hu.sel is he)
theorem WS.sel (is : List Nat) {L' : List SA} (he : selo L is = some L') (k : WS P ro n0 w0 ds ops Q L' rest l) : WS P ro n0 w0 ds ops Q L rest l := fun u hu => k u (hu.sel is he)
theorem QS.sel (is : List Nat) {L' : List SA} {e : Exit} (he : selo L is = some L') (k : QS n0 w0 ds Q e L' l) : QS n0 w0 ds Q e L l := fun u hu => k u (hu.sel is he)
theorem CS.ex {β : Type} {f : β → SA} {c : Code} (k : ∀ b, CS P ro n0 w0 ds c Q (f b :: L) l) : CS P ro n0 w0 ds c Q (exS f :: L) l := fun u hu => let ⟨b, hb⟩ := hu.ex; k b u hb
theorem CS.unpack {L1 L2 : List SA} {c : Code} (k : CS P ro n0 w0 ds c Q (L1 ++ L2) l) : CS P ro n0 w0 ds c Q (star L1 :: L2) l := fun u hu => k u hu.unpack
theorem QS.unpack {L1 L2 : List SA} {e : Exit} (k : QS n0 w0 ds Q e (L1 ++ L2) l) : QS n0 w0 ds Q e (star L1 :: L2) l := fun u hu => k u hu.unpack
theorem QS.ex {β : Type} {f : β → SA} {e : Exit} (k : ∀ b, QS n0 w0 ds Q e (f b :: L) l) : QS n0 w0 ds Q e (exS f :: L) l := fun u hu => let ⟨b, hb⟩ := hu.ex; k b u hb

/-! ### nil -/
theorem det_eqnil {T e : TypeId} {a b : Nat} {T' : TypeId} {x y : Operand} {p : Option Addr} {n c : Nat} (hT : sl P T = some (e, a, b)) (hx : evo l x = some (.slice p n c)) (hy : evo l y = some (.slice none 0 0)) :
    Det P C ⟨d, .binOp .eql T x y T', ty, ps, af, g⟩ l (.bool p.isNone) := fun u _ => by
  (replace hx := ev_of hx; replace hy := ev_of hy)
  obtain ⟨_, hu, _⟩ := sl_spec hT
  simp [execOp, DetUpon, hx, hy, eqGuard, Go.run_eql_slice_nil u T e p n c hu]
theorem det_nenil {T e : TypeId} {a b : Nat} {T' : TypeId} {x y : Operand} {p : Option Addr} {n c : Nat} (hT : sl P T = some (e, a, b)) (hx : evo l x = some (.slice p n c)) (hy : evo l y = some (.slice none 0 0)) :
    Det P C ⟨d, .binOp .neq T x y T', ty, ps, af, g⟩ l (.bool (!p.isNone)) := fun u _ => by
  (replace hx := ev_of hx; replace hy := ev_of hy)
  obtain ⟨_, hu, _⟩ := sl_spec hT
  simp [execOp, DetUpon, hx, hy, eqGuard, Go.run_neq_slice_nil u T e p n c hu]
theorem SlC.nil {u : World} {n c k : Nat} {flat : List Value} (h : SlC u (.slice none n c) n k flat) : n = 0 := by
  obtain ⟨_, p, cap, h1, _, h2⟩ := h
  rcases h2 with h2 | ⟨b, o, rfl, _⟩
  · exact h2
  · simp at h1

/-! ### reading -/
theorem det_ldLR {T : TypeId} {x : Operand} {v : Value} {z j : Nat} {xss : List (List Int)} {gs : List Value} {i : Int} (hx : evo l x = some (.pointer (some (sla v i.toNat)))) (hj : L[j]? = some (roL v xss gs)) {u1 : World} (hs : SlL u1 v xss gs) (h : 0 ≤ i ∧ i < xss.length) (hT : tk P T = some (false, z)) :
    Det P (St n0 w0 L) ⟨d, .load T x, ty, ps, af, g⟩ l (nth gs i) :=
  det_loadS hx (fun _ hu => (hu.roL hj).sp) (nth_one ⟨h.1, by have := hs.sp.len; omega⟩) hT
theorem det_ldLI {T : TypeId} {x : Operand} {v : Value} {z j : Nat} {xss : List (List Int)} {gs : List Value} {i k : Int} (hx : evo l x = some (.pointer (some (sla (nth gs i) k.toNat)))) (hj : L[j]? = some (roL v xss gs)) (h : 0 ≤ i ∧ i < xss.length) (hk : 0 ≤ k ∧ k < (nth xss i).length) (hT : tk P T = some (false, z)) :
    Det P (St n0 w0 L) ⟨d, .load T x, ty, ps, af, g⟩ l (.int .i64 (nth (nth xss i) k)) :=
  det_loadS hx (fun _ hu => (hu.roL hj).el i h.1 h.2) (nth_map hk) hT
theorem det_ldIR {T : TypeId} {x : Operand} {v : Value} {z j : Nat} {xs : List Int} {k : Int} (hx : evo l x = some (.pointer (some (sla v k.toNat)))) (hj : L[j]? = some (roI v xs)) (hk : 0 ≤ k ∧ k < xs.length) (hT : tk P T = some (false, z)) :
    Det P (St n0 w0 L) ⟨d, .load T x, ty, ps, af, g⟩ l (.int .i64 (nth xs k)) :=
  det_loadS hx (fun _ hu => hu.roI hj) (nth_map hk) hT

/-! ### growing -/
theorem WS.appendI {T e : TypeId} {by_ i j : Nat} {x y : Operand} {v z : Value} {xs ys : List Int} (hT : sl P T = some (e, 1, by_)) (hz : zv P e = some [.int .i64 0])
    (hx : evo l x = some v) (hj : L[j]? = some (oints e v xs)) (hy : evo l y = some z) (hn : ∀ u, St n0 w0 L u → SlI u z ys)
    (hb : (xs.length + ys.length) * by_ ≤ 140737488355328) (hm : xs.length + ys.length ≤ 9223372036854775807)
    {l' : Value → List Value} (hl : ∀ v, lset l i v = some (l' v)) {L' : Value → List SA} (hL : ∀ v', lset L j (oints e v' (xs ++ ys)) = some (L' v')) (k : ∀ v', WS P ro n0 w0 ds ops Q (L' v') rest (l' v')) :
    WS P ro n0 w0 ds ops Q L (⟨some i, .call ⟨.builtin .append, #[x, y], #[T, T]⟩, ty, ps, af, none⟩ :: rest) l := by
  refine WS.append hT hz rfl Nat.one_pos hx hj hy hn (by simp [Value.oneCell']) hm hb hl (L' := L') (fun v' => ?_) k
  rw [← hL v']
  simp [oints, ints]
theorem WS.append1 {T e : TypeId} {by_ i j : Nat} {x y : Operand} {v z a : Value} {xs : List Value} {zc : Value} {jz : Nat} (hT : sl P T = some (e, 1, by_)) (hz : zv P e = some [zc])
    (hx : evo l x = some v) (hj : L[j]? = some (osl e 1 v xs.length xs)) (hy : evo l y = some z) (hn : L[jz]? = some (osl e 1 z 1 [a])) (h1 : a.oneCell' = true)
    (hb : (xs.length + 1) * by_ ≤ 140737488355328) (hm : xs.length + 1 ≤ 9223372036854775807)
    {l' : Value → List Value} (hl : ∀ v, lset l i v = some (l' v)) {L' : Value → List SA} (hL : ∀ v', lset L j (osl e 1 v' (xs ++ [a]).length (xs ++ [a])) = some (L' v')) (k : ∀ v', WS P ro n0 w0 ds ops Q (L' v') rest (l' v')) :
    WS P ro n0 w0 ds ops Q L (⟨some i, .call ⟨.builtin .append, #[x, y], #[T, T]⟩, ty, ps, af, none⟩ :: rest) l := by
  refine WS.append hT hz rfl Nat.one_pos hx hj hy (m := 1) (fun u hu => osl_SlC hu hn) (by simpa using h1) hm hb hl (L' := L') (fun v' => ?_) k
  rw [← hL v']
  simp
theorem WS.oc {e : TypeId} {k n j : Nat} {v : Value} {xs : List Value} (hj : L[j]? = some (osl e k v n xs)) (kk : v.oneCell' = true → WS P ro n0 w0 ds ops Q L rest l) : WS P ro n0 w0 ds ops Q L rest l := fun u hu => by
  obtain ⟨_, p, cap, rfl, _⟩ := osl_SlC hu hj
  exact kk rfl u hu
theorem CS.oc {e : TypeId} {k n j : Nat} {v : Value} {xs : List Value} {c : Code} (hj : L[j]? = some (osl e k v n xs)) (kk : v.oneCell' = true → CS P ro n0 w0 ds c Q L l) : CS P ro n0 w0 ds c Q L l := fun u hu => by
  obtain ⟨_, p, cap, rfl, _⟩ := osl_SlC hu hj
  exact kk rfl u hu
theorem CS.factE {p : Prop} {j : Nat} {c : Code} (hj : L[j]? = some (fact p)) (kk : p → CS P ro n0 w0 ds c Q L l) : CS P ro n0 w0 ds c Q L l := fun u hu => kk (hu.factE hj) u hu
theorem QS.factE {p : Prop} {j : Nat} {e : Exit} (hj : L[j]? = some (fact p)) (kk : p → QS n0 w0 ds Q e L l) : QS n0 w0 ds Q e L l := fun u hu => kk (hu.factE hj) u hu
theorem QS.exI {β : Type} {f : β → SA} {e : Exit} (b : β) (k : QS n0 w0 ds Q e (exS f :: L) l) : QS n0 w0 ds Q e (f b :: L) l := fun u hu => k u (hu.exI b)
theorem QS.pack {L1 L2 : List SA} {e : Exit} (k : QS n0 w0 ds Q e (star L1 :: L2) l) : QS n0 w0 ds Q e (L1 ++ L2) l := fun u hu => k u hu.pack
theorem QS.factI {p : Prop} {e : Exit} (hp : p) (k : QS n0 w0 ds Q e (fact p :: L) l) : QS n0 w0 ds Q e L l := fun u hu => k u (hu.factI hp)
theorem WS.buildI1 {T e : TypeId} {by_ i : Nat} {x : Operand} {a : Int} (hT : sl P T = some (e, 1, by_)) (hz : zv P e = some [.int .i64 0]) (hx : evo l x = some (.int .i64 a))
    {l' : Value → List Value} (hl : ∀ v, lset l i v = some (l' v)) (k : ∀ v, WS P ro n0 w0 ds ops Q (oints e v [a] :: L) rest (l' v)) :
    WS P ro n0 w0 ds ops Q L (⟨some i, .buildSlice T 1 #[(0, x)], ty, ps, af, none⟩ :: rest) l :=
  WS.buildSlice1 (pl := [(0, x)]) (vs := [.int .i64 a]) hT hz (by simp [ev_of hx]) rfl (by decide) (by simp [Value.oneCell']) hl k
theorem WS.buildV1 {T e : TypeId} {by_ i : Nat} {x : Operand} {a zc : Value} (hT : sl P T = some (e, 1, by_)) (hz : zv P e = some [zc]) (hx : evo l x = some a) (h1 : a.oneCell' = true)
    {l' : Value → List Value} (hl : ∀ v, lset l i v = some (l' v)) (k : ∀ v, WS P ro n0 w0 ds ops Q (osl e 1 v 1 [a] :: L) rest (l' v)) :
    WS P ro n0 w0 ds ops Q L (⟨some i, .buildSlice T 1 #[(0, x)], ty, ps, af, none⟩ :: rest) l :=
  WS.buildSlice1 (pl := [(0, x)]) (vs := [a]) hT hz (by simp [ev_of hx]) rfl (by decide) (by simpa using h1) hl k
/-- A list of slices takes in one more. -/
theorem St.ollSnoc {te e : TypeId} {v v1 : Value} {ps : List (Value × List Int)} {x : List Int} {u : World}
    (h : St n0 w0 (osl te 1 v (ps.map (·.1) ++ [v1]).length (ps.map (·.1) ++ [v1]) :: Go.Proofs.Ytldagbcceefcdaa.star (loi e ps) :: oints e v1 x :: L) u) :
    St n0 w0 (osl te 1 v ((ps ++ [(v1, x)]).map (·.1)).length ((ps ++ [(v1, x)]).map (·.1)) :: Go.Proofs.Ytldagbcceefcdaa.star (loi e (ps ++ [(v1, x)])) :: L) u := by
  have h1 : St n0 w0 (osl te 1 v (ps.map (·.1) ++ [v1]).length (ps.map (·.1) ++ [v1]) :: (loi e ps ++ (oints e v1 x :: L))) u := by
    have h2 := (h.perm (.swap _ _ _)).unpack
    exact h2.perm (List.perm_middle)
  have e1 : loi e ps ++ (oints e v1 x :: L) = loi e (ps ++ [(v1, x)]) ++ L := by simp [loi]
  rw [e1] at h1
  have h3 := (h1.perm (List.perm_middle (l₁ := loi e (ps ++ [(v1, x)]))).symm).pack.perm (.swap _ _ _)
  have e3 : ps.map (·.1) ++ [v1] = (ps ++ [(v1, x)]).map (·.1) := by simp
  rw [e3] at h3
  exact h3
theorem St.oll0 {te e : TypeId} {u : World} (h : St n0 w0 L u) : St n0 w0 (osl te 1 (.slice none 0 0) (([] : List (Value × List Int)).map (·.1)).length (([] : List (Value × List Int)).map (·.1)) :: Go.Proofs.Ytldagbcceefcdaa.star (loi e []) :: L) u := by
  have h1 : St n0 w0 (Go.Proofs.Ytldagbcceefcdaa.star [] :: L) u := St.pack (L1 := []) h
  exact h1.osl0 (e := te) (size := 1)
theorem QS.oc {e : TypeId} {k n j : Nat} {v : Value} {xs : List Value} {ex : Exit} (hj : L[j]? = some (osl e k v n xs)) (kk : v.oneCell' = true → QS n0 w0 ds Q ex L l) : QS n0 w0 ds Q ex L l := fun u hu => by
  obtain ⟨_, p, cap, rfl, _⟩ := osl_SlC hu hj
  exact kk rfl u hu
end

end Go.Proofs.Ytldagbcceefcdaa
