import Derived.Test.YtldagbcceefcdaaDraw
import Derived.RangeFuncLeaves
import Derived.RangeFuncBound
/- part Iter -/
/- Ranges over functions: parts of memory regrouped; what an iterator owes its caller; the loop; yield. -/
namespace Go.Proofs.Ytldagbcceefcdaa
set_option linter.unusedVariables false
set_option linter.unusedSimpArgs false
open Go.RowKit Go.Proofs

/-! ### Parts -/
theorem KeepC.lt {S : Nat → Prop} {u u' : World} (h : KeepC S u u') {k : Nat} (hS : S k) (hk : k < u.heap.size) : k < u'.heap.size := by
  have := h k hS u.heap[k] (by simp [hk])
  exact (Array.getElem?_eq_some_iff.1 this).1
/-- A block of the machine's own book-keeping. -/
def recd (l : Nat) (o : Obj) : SA where
  h S u := (∀ k, S k ↔ k = l) ∧ u.heap[l]? = some o
  loc S u u' h hk := ⟨h.1, hk l ((h.1 l).2 rfl) _ h.2⟩
  dom S u k h hS := by
    obtain ⟨h1, h2⟩ := h
    rw [(h1 k).1 hS]
    exact (Array.getElem?_eq_some_iff.1 h2).1
/-- Some parts as one. -/
def star (L : List SA) : SA where
  h S u := Star L S u ∧ ∀ k, S k → k < u.heap.size
  loc S u u' h hk := ⟨h.1.keep hk (fun k h _ => h), fun k hS => hk.lt hS (h.2 k hS)⟩
  dom S u k h hS := h.2 k hS
/-- A word on no memory. -/
def fact (p : Prop) : SA where
  h S u := p ∧ ∀ k, ¬ S k
  loc S u u' h _ := h
  dom S u k h hS := (h.2 k hS).elim
/-- One of a family. -/
def exS {β : Type} (f : β → SA) : SA where
  h S u := ∃ b, (f b).h S u
  loc S u u' h hk := let ⟨b, hb⟩ := h; ⟨b, (f b).loc S u u' hb hk⟩
  dom S u k h hS := let ⟨b, hb⟩ := h; (f b).dom S u k hb hS

theorem Star.sup {L : List SA} {S S' : Nat → Prop} {u : World} (h : Star L S u) (hs : ∀ k, S k → S' k) : Star L S' u := h.keep (fun _ _ _ h => h) fun k hk _ => hs k hk
theorem Star.perm {L L' : List SA} (h : L.Perm L') : ∀ {S : Nat → Prop} {u : World}, Star L S u → Star L' S u := by
  induction h with
  | nil => exact fun h => h
  | cons A _ ih => rintro S u ⟨T, hT, hA, hL⟩; exact ⟨T, hT, hA, ih hL⟩
  | swap A B L =>
    rintro S u ⟨T, hT, hA, T', hT', hB, hL⟩
    exact ⟨T', fun k h => (hT' k h).1, hB, T, fun k h => ⟨hT k h, fun h' => (hT' k h').2 h⟩, hA, hL.sup fun k h => ⟨⟨h.1.1, h.2⟩, h.1.2⟩⟩
  | trans _ _ i1 i2 => exact fun h => i2 (i1 h)
theorem Star.split : ∀ {L1 L2 : List SA} {S : Nat → Prop} {u : World}, Star (L1 ++ L2) S u → Star (star L1 :: L2) S u
  | [], L2, S, u, h => ⟨fun _ => False, fun _ h => h.elim, ⟨trivial, fun _ h => h.elim⟩, h.sup fun k h => ⟨h, fun h => h⟩⟩
  | A :: L1, L2, S, u, ⟨T0, hT0, hA, hL⟩ => by
    obtain ⟨T1, h1, h2, h3⟩ := Star.split hL
    refine ⟨fun k => T0 k ∨ T1 k, ?_, ⟨⟨T0, fun k h => .inl h, hA, h2.1.sup fun k h => ⟨.inr h, (h1 k h).2⟩⟩, ?_⟩, h3.sup fun k h => ⟨h.1.1, ?_⟩⟩
    · rintro k (h | h)
      · exact hT0 k h
      · exact (h1 k h).1
    · rintro k (h | h)
      · exact A.dom _ _ _ hA h
      · exact h2.2 k h
    · rintro (h' | h')
      · exact h.1.2 h'
      · exact h.2 h'
theorem Star.join : ∀ {L1 L2 : List SA} {S T : Nat → Prop} {u : World}, Star L1 T u → (∀ k, T k → S k) → Star L2 (fun k => S k ∧ ¬ T k) u → Star (L1 ++ L2) S u
  | [], L2, S, T, u, _, _, h => h.sup fun _ h => h.1
  | A :: L1, L2, S, T, u, ⟨T0, hT0, hA, hL⟩, hS, h => ⟨T0, fun k h => hS k (hT0 k h), hA,
      Star.join hL (fun k h => ⟨hS k h.1, h.2⟩) (h.sup fun k h => ⟨⟨h.1, fun h0 => h.2 (hT0 k h0)⟩, fun h' => h.2 h'.1⟩)⟩
theorem Star.unsplit {L1 L2 : List SA} {S : Nat → Prop} {u : World} : Star (star L1 :: L2) S u → Star (L1 ++ L2) S u :=
  fun ⟨_, h1, h2, h3⟩ => Star.join h2.1 h1 h3

section
variable {n0 : Nat} {w0 : World} {u : World}
theorem St.perm {L L' : List SA} (h : St n0 w0 L u) (hp : L.Perm L') : St n0 w0 L' u := ⟨h.le, h.below, h.star.perm hp⟩
theorem St.pack {L1 L2 : List SA} (h : St n0 w0 (L1 ++ L2) u) : St n0 w0 (Go.Proofs.Ytldagbcceefcdaa.star L1 :: L2) u := ⟨h.le, h.below, h.star.split⟩
theorem St.unpack {L1 L2 : List SA} (h : St n0 w0 (Go.Proofs.Ytldagbcceefcdaa.star L1 :: L2) u) : St n0 w0 (L1 ++ L2) u := ⟨h.le, h.below, h.star.unsplit⟩
theorem St.tail {A : SA} {L : List SA} (h : St n0 w0 (A :: L) u) : St n0 w0 L u := h.erase 0
theorem St.ex {β : Type} {f : β → SA} {L : List SA} (h : St n0 w0 (exS f :: L) u) : ∃ b, St n0 w0 (f b :: L) u := by
  obtain ⟨h1, h2, T, h3, ⟨b, hb⟩, h4⟩ := h
  exact ⟨b, h1, h2, T, h3, hb, h4⟩
theorem St.exI {β : Type} {f : β → SA} {L : List SA} (b : β) (h : St n0 w0 (f b :: L) u) : St n0 w0 (exS f :: L) u := by
  obtain ⟨h1, h2, T, h3, hb, h4⟩ := h
  exact ⟨h1, h2, T, h3, ⟨b, hb⟩, h4⟩
theorem St.factI {p : Prop} {L : List SA} (hp : p) (h : St n0 w0 L u) : St n0 w0 (fact p :: L) u :=
  ⟨h.le, h.below, fun _ => False, fun _ h => h.elim, ⟨hp, fun _ h => h⟩, h.star.sup fun _ h => ⟨h, fun h => h⟩⟩
theorem St.factE {p : Prop} {L : List SA} {j : Nat} (hj : L[j]? = some (fact p)) (h : St n0 w0 L u) : p := by
  obtain ⟨T, _, h2⟩ := h.get hj
  exact h2.1
theorem St.rec_ {L : List SA} {j l : Nat} {o : Obj} (hj : L[j]? = some (recd l o)) (h : St n0 w0 L u) : n0 ≤ l ∧ u.heap[l]? = some o := by
  obtain ⟨T, h1, h2⟩ := h.get hj
  exact ⟨h1 l ((h2.1 l).2 rfl), h2.2⟩
theorem St.allocRec {L : List SA} (h : St n0 w0 L u) (o : Obj) : St n0 w0 (recd u.heap.size o :: L) (u.alloc o) := by
  refine h.cons (T := fun k => k = u.heap.size) ((Below.refl _ u).alloc (Nat.le_refl _) _) ⟨fun k => Iff.rfl, ?_⟩ (fun k hk => by omega)
  exact World.alloc_heap_new u _
theorem St.putRec {L : List SA} {j l : Nat} {o : Obj} (h : St n0 w0 L u) (hj : L[j]? = some (recd l o)) (o' : Obj) : St n0 w0 (L.set j (recd l o')) (u.putObj l o') := by
  obtain ⟨T, hT, ⟨hS, hb⟩, hc⟩ := h.upd hj
  have hl := hT l ((hS l).2 rfl)
  refine hc _ _ (fun k => k = l) ⟨rfl, rfl, rfl, by simp, fun k hk => World.putObj_heap_other (by omega)⟩ (fun k hk o'' ho => ?_) ⟨fun k => Iff.rfl, World.putObj_heap_same (Array.getElem?_eq_some_iff.1 hb).1⟩
    (fun k hk => by subst hk; exact ⟨hl, .inl ((hS _).2 rfl)⟩)
  rw [World.putObj_heap_other (fun e => hk.2.2 ((hS k).2 e))]
  exact ho
end

/-! ### Iterators -/
/-- WHAT AN ITERATOR OWES ITS CALLER: given a yield that takes the caller's part from one prefix to the next (or stops), it hands over all, one after another, each one only lent; its own captured parts A stand as they stood. -/
def Iter (P : Program) (w0 : World) (g : FuncId) (lb : List Value) (A : List SA) {X : Type} (lend : Value → X → SA) (all : List X) : Prop :=
  ∀ (lp : Nat) (C Cx : List X → SA),
    (∀ pre x post, all = pre ++ x :: post → ∀ (F : SA) (v : Value) (u : World), St w0.heap.size w0 [C pre, lend v x, F] u →
      YieldAt (FW none) 0 P lp #[v] u fun e u' => (e = .returned (.bool true) ∧ St w0.heap.size w0 [C (pre ++ [x]), lend v x, F] u') ∨
        (e = .returned (.bool false) ∧ St w0.heap.size w0 [Cx (pre ++ [x]), lend v x, F] u')) →
    ∀ u, St w0.heap.size w0 (C [] :: A) u →
      Calls P g (.func (.yield lp) #[] #[] :: lb).toArray u fun e u' => (∃ v, e = .returned v) ∧
        (St w0.heap.size w0 (C all :: A) u' ∨ ∃ pre x post, all = pre ++ x :: post ∧ St w0.heap.size w0 (Cx (pre ++ [x]) :: A) u')

/-- How a round may be left. -/
def roundQ {X : Type} (n0 : Nat) (w0 : World) (M : List X → List SA) (Mx : Code → List X → List SA) (B : SA) (pre : List X) (F : SA) : Exit → Act → World → Prop
  | .normal, _, u => St n0 w0 (B :: (M pre ++ [F])) u
  | .ret, _, u => St n0 w0 (B :: (Mx .ret pre ++ [F])) u
  | .exit i, _, u => St n0 w0 (B :: (Mx (.exit i) pre ++ [F])) u
  | _, _, _ => False

/-- The record of a loop. -/
def lrec (fn : FuncId) (tmps : Array Value) (t : Nat) (assign body : Code) (D : Nat) (st : LoopState) (pe : Option Code) : Loop :=
  { state := st, pending := pe, fn, tmps, params := #[t], assign, body, defers := D }
def mark (D : Nat) : Deferred := { target := .collected D, args := #[] }

section
variable {P : Program} {ro : Option Nat} {w0 : World} {ds : List Deferred} {Q : Exit → Act → World → Prop} {L : List SA} {l : List Value}

theorem perm5 {a b c f : SA} {M : List SA} : (a :: b :: (M ++ [c, f])).Perm ([a, b, f] ++ (c :: M)) :=
  ((List.perm_append_comm.trans (List.Perm.swap _ _ _)).cons b).cons a
theorem perm6 {F c : SA} {M : List SA} : (F :: (c :: M)).Perm (c :: (M ++ [F])) :=
  (List.Perm.swap _ _ _).trans ((List.perm_append_comm (l₁ := [F]) (l₂ := M)).cons c)

theorem CS.rangeFunc {X : Type} {gf : FuncId} {lb : List Value} {A : List SA} {lend : Value → X → SA} {all : List X} {g : Operand} {t : Tmp} {assign body : Code}
    (hg : evo l g = some (.func (.func gf) #[] lb.toArray)) (he : Ent P gf) (hi : Iter P w0 gf lb A lend all)
    (M : List X → List SA) (Mx : Code → List X → List SA) {l0 l1 : Value → List Value} (h0 : ∀ v, lset l t v = some (l0 v))
    (ha : ∀ (v : Value) (lr : Nat) (L' : List SA) (Q' : Exit → Act → World → Prop), QS w0.heap.size w0 [] Q' .normal L' (l1 v) → CS P (some lr) w0.heap.size w0 [] assign Q' L' (l0 v))
    (hbody : ∀ (lr : Nat) (pre : List X) (x : X) (post : List X) (v : Value) (F : SA), all = pre ++ x :: post →
      CS P (some lr) w0.heap.size w0 [] body (roundQ w0.heap.size w0 M Mx (lend v x) (pre ++ [x]) F) (lend v x :: (M pre ++ [F])) (l1 v))
    (hdone : ∀ D, QS w0.heap.size w0 (mark D :: ds) Q .normal (recd D (.deferred (some [])) :: (M all ++ A)) l)
    (hstop : ∀ D c pre x post, all = pre ++ x :: post → CS P none w0.heap.size w0 (mark D :: ds) c Q (recd D (.deferred (some [])) :: (Mx c (pre ++ [x]) ++ A)) l) :
    CS P none w0.heap.size w0 ds (.rangeFunc g #[t] assign body) Q (M [] ++ A) l := by
  intro u hu
  refine wpIn_rangeFunc ?_
  intro fn hfn
  have hu1 := (hu.allocRec (.deferred (some []))).allocRec (.loop (lrec fn l.toArray t assign body u.heap.size .ready none))
  rw [World.size_alloc] at hu1
  obtain ⟨W1, hW1⟩ : ∃ W1, (u.alloc (.deferred (some []))).alloc (.loop (lrec fn l.toArray t assign body u.heap.size .ready none)) = W1 := ⟨_, rfl⟩
  have hent := run_enterLoop_outer (P := P) (w := u) fn l.toArray #[t] assign body
  rw [show ({ state := .ready, pending := none, fn, tmps := l.toArray, params := #[t], assign, body, defers := u.heap.size } : Loop) = lrec fn l.toArray t assign body u.heap.size .ready none from rfl, hW1] at hent
  rw [hW1] at hu1
  generalize u.heap.size = D at hent hu1
  clear hW1 hu
  refine ⟨D + 1, [mark D], W1, { target := .fn (.func gf) lb.toArray, args := #[.func (.yield (D + 1)) #[] #[]] }, W1, gf,
    #[.func (.yield (D + 1)) #[] #[]] ++ lb.toArray, W1, hent, ?_, fun _ _ => trivial, ?_, fun h => by simp [FW] at h, ?_⟩
  · have hg' : (Act.mk l.toArray ds).eval g = .func (.func gf) #[] lb.toArray := by rw [eval_ev]; exact ev_of hg
    simp only [resolve, hg']
    simp [go_sem]
  · have h1 : ∀ (args : Array Value) (w : World), Sem.run P (callFunc gf args) w = .ok (.enter gf args) w := he
    simp [invoke, go_sem, h1]
  · have hcall := hi (D + 1) (fun pre => star ([recd (D + 1) (.loop (lrec fn l.toArray t assign body D .ready none)), recd D (.deferred (some []))] ++ M pre))
      (fun pre => exS fun c : Code => star ([recd (D + 1) (.loop (lrec fn l.toArray t assign body D .done (some c))), recd D (.deferred (some []))] ++ Mx c pre)) ?_ W1
      (St.pack (L1 := [recd (D + 1) (.loop (lrec fn l.toArray t assign body D .ready none)), recd D (.deferred (some []))] ++ M []) hu1)
    · have e : (Value.func (.yield (D + 1)) #[] #[] :: lb).toArray = #[Value.func (.yield (D + 1)) #[] #[]] ++ lb.toArray := by apply Array.ext'; simp
      rw [e] at hcall
      have hcall' := (callsIn_wide (n := 0)).2 hcall
      refine CallsIn.mono hcall' ?_
      rintro e u' ⟨⟨v, rfl⟩, hs | ⟨pre, x, post, hall, hs⟩⟩
      · have hs2 := hs.unpack
        obtain ⟨_, hl⟩ := St.rec_ (j := 0) rfl hs2
        exact ⟨none, _, run_endLoop hl (by simp [lrec]), hdone D _ (hs2.putRec (j := 0) rfl _).tail⟩
      · obtain ⟨c, hs1⟩ := hs.ex
        have hs2 := hs1.unpack
        obtain ⟨_, hl⟩ := St.rec_ (j := 0) rfl hs2
        exact ⟨some c, _, run_endLoop hl (by simp [lrec]), hstop D c pre x post hall _ (hs2.putRec (j := 0) rfl _).tail⟩
    · intro pre x post hall F v u1 hs
      have hs1 := St.unpack hs
      obtain ⟨_, hl⟩ := St.rec_ (j := 0) rfl hs1
      have hy := run_yield (P := P) (args := #[v]) hl (by simp [lrec])
      have et : ((lrec fn l.toArray t assign body D .ready none).params.zip #[v]).foldl (fun tmps (t, a) => tmps.setIfInBounds t a) (lrec fn l.toArray t assign body D .ready none).tmps = (l0 v).toArray := by
        have := lset_of (h0 v)
        simp [lrec, ← this]
      rw [et] at hy
      refine ⟨fn, _, assign, body, hy, roundIn_of_wpIn (F := FW none) trivial ?_⟩
      refine ha v (D + 1) _ _ ?_ u1 hs
      intro u2 hs2
      have hs3 := St.unpack hs2
      obtain ⟨_, hl2⟩ := St.rec_ (j := 0) rfl hs3
      refine ⟨_, run_beginRound hl2 rfl, ?_⟩
      have hs4 := (hs3.putRec (j := 0) rfl (.loop (lrec fn l.toArray t assign body D .busy none)))
      have hs5 := (((hs4.perm perm5).pack).perm perm6)
      refine wpIn_mono (hbody (D + 1) pre x post v _ hall _ hs5) ?_
      have back : ∀ {M' : List SA} {u4 : World}, St w0.heap.size w0 (lend v x :: (M' ++ [star [recd (D + 1) (.loop (lrec fn l.toArray t assign body D .busy none)), recd D (.deferred (some [])), F]])) u4 →
          St w0.heap.size w0 (recd (D + 1) (.loop (lrec fn l.toArray t assign body D .busy none)) :: recd D (.deferred (some [])) :: (M' ++ [lend v x, F])) u4 := fun h => ((h.perm perm6.symm).unpack).perm perm5.symm
      rintro e a u4 hq
      cases e with
      | normal =>
        have h4 := back hq
        obtain ⟨_, hl4⟩ := St.rec_ (j := 0) rfl h4
        exact ⟨_, _, run_endRound none hl4, .inl ⟨rfl, St.pack (L1 := _ :: _ :: M (pre ++ [x])) (h4.putRec (j := 0) rfl (.loop (lrec fn l.toArray t assign body D .ready none)))⟩⟩
      | ret =>
        have h4 := back hq
        obtain ⟨_, hl4⟩ := St.rec_ (j := 0) rfl h4
        exact ⟨_, _, run_endRound (some .ret) hl4, .inr ⟨rfl, St.exI .ret (St.pack (L1 := _ :: _ :: Mx .ret (pre ++ [x])) (h4.putRec (j := 0) rfl (.loop (lrec fn l.toArray t assign body D .done (some .ret)))))⟩⟩
      | exit i =>
        have h4 := back hq
        obtain ⟨_, hl4⟩ := St.rec_ (j := 0) rfl h4
        exact ⟨_, _, run_endRound (some (.exit i)) hl4, .inr ⟨rfl, St.exI (.exit i) (St.pack (L1 := _ :: _ :: Mx (.exit i) (pre ++ [x])) (h4.putRec (j := 0) rfl (.loop (lrec fn l.toArray t assign body D .done (some (.exit i))))))⟩⟩
      | goto i => exact hq.elim
      | panic c => exact hq.elim
      | outgrown => exact hq.elim
/-! ### Entering, leaving -/
theorem args_eq {args : List Value} {n : Nat} : (args ++ List.replicate (n - args.length) undef).toArray = args.toArray ++ Array.replicate (n - args.toArray.size) undef := by
  apply Array.ext'; simp
theorem enterI {n0 : Nat} {f : FuncId} {fn : Func} {c : Code} {args : List Value} {u : World} {R : Ending → World → Prop} (hu : St n0 w0 L u) (hf : P.funcs[f]? = some fn) (hb : fn.body = some c)
    (hl : frame args fn.ntmps = some l) (hn : args.length ≤ fn.ntmps) (h : CS P none n0 w0 [] c (bodyPost P fn R) L l) : Calls P f args.toArray u R := by
  refine (callsIn_wide (n := 0)).1 (callsIn_of_wp hf hb trivial ?_)
  have := h u hu
  rw [← frame_of hl hn, args_eq] at this
  exact this
theorem enterM {n0 : Nat} {f : FuncId} {fn : Func} {c : Code} {args : List Value} {u : World} {R : Ending → World → Prop} (hu : St n0 w0 L u) (hf : P.funcs[f]? = some fn) (hb : fn.body = some c)
    (hl : frame args fn.ntmps = some l) (hn : args.length ≤ fn.ntmps) (h : CS P none n0 w0 [] c (bodyPostM (FW none) 0 P fn R) L l) : Calls P f args.toArray u R := by
  refine (callsIn_wide (n := 0)).1 (callsIn_of_wp_marks hf hb trivial ?_)
  have := h u hu
  rw [← frame_of hl hn, args_eq] at this
  exact this

/-- The results, read off the variables. -/
def Res (P : Program) (fn : Func) (l : List Value) (L : List SA) (n0 : Nat) (w0 : World) (v : Value) : Prop := ∀ u, St n0 w0 L u → (results fn l.toArray).run P u = .ok v u
theorem outM {n0 : Nat} {fn : Func} {R : Ending → World → Prop} {D j : Nat} {e : Exit} {v : Value} (he : e = .ret ∨ e = .normal) (hj : L[j]? = some (recd D (.deferred (some []))))
    (hr : Res P fn l (L.set j (recd D (.deferred none))) n0 w0 v) (hR : ∀ u, St n0 w0 (L.set j (recd D (.deferred none))) u → R (.returned v) u) :
    QS n0 w0 [mark D] (bodyPostM (FW none) 0 P fn R) e L l := fun u hu => by
  obtain ⟨_, h1⟩ := hu.rec_ hj
  have h2 := hu.putRec hj (.deferred none)
  have : LeavesInM (FW none) 0 P fn l.toArray R [mark D] .returning u :=
    ⟨by simp, .inl ⟨D, _, rfl, run_takeDeferred h1, _, hr _ h2, hR _ h2⟩⟩
  rcases he with rfl | rfl <;> exact this
theorem outE {n0 : Nat} {fn : Func} {R : Ending → World → Prop} {e : Exit} {v : Value} (he : e = .ret ∨ e = .normal) (hr : Res P fn l L n0 w0 v) (hR : ∀ u, St n0 w0 L u → R (.returned v) u) :
    QS n0 w0 [] (bodyPostM (FW none) 0 P fn R) e L l := fun u hu => by
  have : LeavesInM (FW none) 0 P fn l.toArray R [] .returning u := ⟨_, hr u hu, hR u hu⟩
  rcases he with rfl | rfl <;> exact this
/-- One result variable. -/
def Rv (P : Program) (n0 : Nat) (w0 : World) (L : List SA) (l : List Value) (b t : Nat) (ty : TypeId) (v : Value) : Prop :=
  l[t]? = some (.pointer (some ⟨b, 0, none⟩)) ∧ ∀ u, St n0 w0 L u → (loadVar ty ⟨b, 0, none⟩).run P u = .ok v u
section
variable {n0 : Nat} {fn : Func}
theorem cell_rv {j b t : Nat} {ty e : TypeId} {v : Value} {c : List Value} {k : Nat} (ht : l[t]? = some (.pointer (some ⟨b, 0, none⟩))) (hj : L[j]? = some (blk b c e)) (hv : c[0]? = some v) (hT : tk P ty = some (false, k)) :
    Rv P n0 w0 L l b t ty v := ⟨ht, fun u hu => by
  have h1 : u.cell? ⟨b, 0, none⟩ = some v := by rw [blk_cell (hu.blk hj).2]; exact hv
  simp [loadVar, (tk_spec hT u).1, h1]⟩
theorem rv_get {b t : Nat} {ty : TypeId} {v : Value} (h : Rv P n0 w0 L l b t ty v) {u : World} (hu : St n0 w0 L u) :
    Sem.run P (asAddr (l[t]?.getD undef)) u = .ok ⟨b, 0, none⟩ u ∧ Sem.run P (loadVar ty ⟨b, 0, none⟩) u = .ok v u := by
  refine ⟨?_, h.2 u hu⟩
  rw [h.1]
  simp [asAddr]
theorem res0 (h : fn.results = #[]) : Res P fn l L n0 w0 (.tuple #[]) := fun u _ => results_none h _ _ _
theorem res1 {t : Nat} {v : Value} (h : fn.results = #[.tmp t]) (h1 : l[t]? = some v) : Res P fn l L n0 w0 v := fun u _ => by
  have := results_tmp h l.toArray P u
  simp [h1] at this
  exact this
theorem res2 {t1 t2 : Nat} {v1 v2 : Value} (h : fn.results = #[.tmp t1, .tmp t2]) (h1 : l[t1]? = some v1) (h2 : l[t2]? = some v2) : Res P fn l L n0 w0 (.tuple #[v1, v2]) := fun u _ => by
  have := results_tmp2 h l.toArray P u
  simp [h1, h2] at this
  exact this
theorem resc {b t : Nat} {ty : TypeId} {v : Value} (h : fn.results = #[.cell t ty]) (h1 : Rv P n0 w0 L l b t ty v) : Res P fn l L n0 w0 v := fun u hu => by
  obtain ⟨a1, a2⟩ := rv_get h1 hu
  simp only [results, h]
  simp [Sem.run_bind, Result.andThen, a1, a2]
theorem resct {b t t2 : Nat} {ty : TypeId} {v v2 : Value} (h : fn.results = #[.cell t ty, .tmp t2]) (h1 : Rv P n0 w0 L l b t ty v) (h2 : l[t2]? = some v2) : Res P fn l L n0 w0 (.tuple #[v, v2]) := fun u hu => by
  obtain ⟨a1, a2⟩ := rv_get h1 hu
  simp only [results, h]
  simp [Sem.run_bind, Result.andThen, a1, a2, h2]
theorem resccc {b t b2 t2 b3 t3 : Nat} {ty ty2 ty3 : TypeId} {v v2 v3 : Value} (h : fn.results = #[.cell t ty, .cell t2 ty2, .cell t3 ty3]) (h1 : Rv P n0 w0 L l b t ty v) (h2 : Rv P n0 w0 L l b2 t2 ty2 v2)
    (h3 : Rv P n0 w0 L l b3 t3 ty3 v3) : Res P fn l L n0 w0 (.tuple #[v, v2, v3]) := fun u hu => by
  obtain ⟨a1, a2⟩ := rv_get h1 hu
  obtain ⟨b1, b2⟩ := rv_get h2 hu
  obtain ⟨c1, c2⟩ := rv_get h3 hu
  simp only [results, h]
  simp [Sem.run_bind, Result.andThen, a1, a2, b1, b2, c1, c2]
end

/-! ### yield -/
theorem WS.yield {n0 : Nat} {ops : Array Oper} {rest : List Oper} {ty : TypeId} {ps : String} {af : Array Edge} {i lp : Nat} {x : Operand} {args : List Operand} {ts : Array TypeId} {vs : List Value} {L' : Bool → List SA} {l' : Bool → List Value} {g : Option (Nat × Bool)}
    (hw : Region.wanted ⟨some i, .call ⟨.value x, args.toArray, ts⟩, ty, ps, af, g⟩ (yielded ops l.toArray) = true)
    (hx : evo l x = some (.func (.yield lp) #[] #[])) (hv : evs l args = some vs)
    (hc : ∀ u, St n0 w0 L u → YieldAt (FW none) 0 P lp vs.toArray u fun e u' => ∃ b, e = .returned (.bool b) ∧ St n0 w0 (L' b) u')
    (hl : ∀ b, lset l i (.bool b) = some (l' b)) (k : ∀ b, WS P ro n0 w0 ds ops Q (L' b) rest (l' b)) :
    WS P ro n0 w0 ds ops Q L (⟨some i, .call ⟨.value x, args.toArray, ts⟩, ty, ps, af, g⟩ :: rest) l := by
  intro u hu
  unfold wpListIn
  rw [if_pos hw]
  obtain ⟨fn, tmps, assign, body, hy, hR⟩ := hc u hu
  refine ⟨fun _ _ => trivial, ?_⟩
  rw [semAt_calm rfl, eval_ev]
  have hr : (execOp (ev l) ⟨some i, .call ⟨.value x, args.toArray, ts⟩, ty, ps, af, g⟩).run P u = .ok (.round lp fn tmps assign body) u := by
    replace hx := ev_of hx
    replace hv := evs_of hv
    subst hv
    simp [execOp, resolve, invoke, go_sem, hx, hy]
  rw [hr, Oper.uponIn_round]
  refine ⟨fun h => by simp [FW] at h, ?_⟩
  refine RoundIn.mono (F := FW none) hR ?_
  rintro e u' ⟨b, rfl, hs⟩
  show wpListIn (FW ro) 0 P ops Q rest ((Act.mk l.toArray ds).put (some i) (.bool b)) u'
  rw [put_some, lset_of (hl b)]
  exact k b u' hs
end

end Go.Proofs.Ytldagbcceefcdaa

/- part Own -/
/- Slices of a call's own: loads, places, stores. -/
namespace Go.Proofs.Ytldagbcceefcdaa
set_option linter.unusedVariables false
set_option linter.unusedSimpArgs false
open Go.RowKit Go.Proofs

def ints (xs : List Int) : List Value := xs.map (Value.int .i64)
/-- A slice of ints of the call's own. -/
def oints (e : TypeId) (v : Value) (xs : List Int) : SA := osl e 1 v xs.length (ints xs)

section
variable {P : Program} {ro : Option Nat} {n0 : Nat} {w0 : World} {ds : List Deferred} {ops : Array Oper} {Q : Exit → Act → World → Prop} {L : List SA}
  {rest : List Oper} {l : List Value} {d : Option Tmp} {ty : TypeId} {ps : String} {af : Array Edge} {g : Option (Nat × Bool)} {C : World → Prop}
theorem det_idxO {T e e' : TypeId} {k by_ j : Nat} {x y : Operand} {v : Value} {i : Int} {n : Nat} {xs : List Value} (hT : sl P T = some (e, k, by_)) (hx : evo l x = some v) (hy : evo l y = some (.int .i64 i))
    (hj : L[j]? = some (osl e' k v n xs)) (h0 : 0 ≤ i) (h1 : i < n) : Det P (St n0 w0 L) ⟨d, .indexAddr T x y, ty, ps, af, g⟩ l (.pointer (some (sla v (i.toNat * k)))) :=
  fun u hu => det_indexS (C := St n0 w0 L) hT hx hy (osl_SlC hu hj) h0 h1 u hu
theorem det_idxOI {T e e' : TypeId} {by_ j : Nat} {x y : Operand} {v : Value} {i : Int} {xs : List Int} (hT : sl P T = some (e, 1, by_)) (hx : evo l x = some v) (hy : evo l y = some (.int .i64 i))
    (hj : L[j]? = some (oints e' v xs)) (h0 : 0 ≤ i) (h1 : i < xs.length) : Det P (St n0 w0 L) ⟨d, .indexAddr T x y, ty, ps, af, g⟩ l (.pointer (some (sla v i.toNat))) := by
  have := det_idxO (n0 := n0) (w0 := w0) (d := d) (ty := ty) (ps := ps) (af := af) (g := g) hT hx hy hj h0 h1
  rwa [Nat.mul_one] at this
theorem oints_SlI {e : TypeId} {v : Value} {xs : List Int} {j : Nat} {u : World} (hu : St n0 w0 L u) (hj : L[j]? = some (oints e v xs)) : SlI u v xs := osl_SlC hu hj
theorem det_ldO {T e : TypeId} {k m z j n : Nat} {x : Operand} {v y : Value} {xs : List Value} (hx : evo l x = some (.pointer (some (sla v m)))) (hj : L[j]? = some (osl e k v n xs)) (hm : xs[m]? = some y) (hT : tk P T = some (false, z)) :
    Det P (St n0 w0 L) ⟨d, .load T x, ty, ps, af, g⟩ l y := det_loadS hx (fun _ hu => osl_SlC hu hj) hm hT
theorem det_ldOI {T e : TypeId} {z j : Nat} {x : Operand} {v : Value} {i : Int} {xs : List Int} (hx : evo l x = some (.pointer (some (sla v i.toNat)))) (hj : L[j]? = some (oints e v xs)) (h : 0 ≤ i ∧ i < xs.length) (hT : tk P T = some (false, z)) :
    Det P (St n0 w0 L) ⟨d, .load T x, ty, ps, af, g⟩ l (.int .i64 (nth xs i)) := det_ldO hx hj (nth_map h) hT
theorem det_lenOI {T e e' : TypeId} {a b j : Nat} {x : Operand} {v : Value} {xs : List Int} (hT : sl P T = some (e, a, b)) (hx : evo l x = some v) (hj : L[j]? = some (oints e' v xs)) :
    Det P (St n0 w0 L) ⟨d, .call ⟨.builtin .len, #[x], #[T]⟩, ty, ps, af, g⟩ l (.int .i64 xs.length) := det_lenO hT hx hj

theorem yield_lent {u : World} {lp : Nat} {v : Value} {C' Cx' B F : SA}
    (h : YieldAt (FW none) 0 P lp #[v] u fun e u' => (e = .returned (.bool true) ∧ St n0 w0 [C', B, F] u') ∨ (e = .returned (.bool false) ∧ St n0 w0 [Cx', B, F] u')) :
    YieldAt (FW none) 0 P lp #[v] u fun e u' => ∃ b, e = .returned (.bool b) ∧ St n0 w0 [B, cond b C' Cx', F] u' := by
  refine h.mono ?_
  rintro e u' (⟨rfl, h⟩ | ⟨rfl, h⟩)
  · exact ⟨true, rfl, h.perm (.swap _ _ _)⟩
  · exact ⟨false, rfl, h.perm (.swap _ _ _)⟩
theorem lset_get {α : Type} : ∀ {l : List α} {n : Nat} {v : α} {r : List α}, lset l n v = some r → n < l.length → r[n]? = some v := by
  intro l n v r h hn
  have := lset_of h
  subst this
  simp [hn]
theorem CS.perm {L' : List SA} {c : Code} (hp : L.Perm L') (k : CS P ro n0 w0 ds c Q L' l) : CS P ro n0 w0 ds c Q L l := fun u hu => k u (hu.perm hp)
section
variable {X : Type} {gf : FuncId} {lb : List Value} {A : List SA} {lend : Value → X → SA} {all : List X} {x : Operand} {t t2 id : Tmp} {body : Code}
/-- A loop whose round begins with no assignment. -/
theorem CS.rangeS (hg : evo l x = some (.func (.func gf) #[] lb.toArray)) (he : Ent P gf) (hi : Iter P w0 gf lb A lend all)
    (M : List X → List SA) (Mx : Code → List X → List SA) {l0 : Value → List Value} (h0 : ∀ v, lset l t v = some (l0 v))
    (hbody : ∀ (lr : Nat) (pre : List X) (x : X) (post : List X) (v : Value) (F : SA), all = pre ++ x :: post →
      CS P (some lr) w0.heap.size w0 [] body (roundQ w0.heap.size w0 M Mx (lend v x) (pre ++ [x]) F) (lend v x :: (M pre ++ [F])) (l0 v))
    (hdone : ∀ D, QS w0.heap.size w0 (mark D :: ds) Q .normal (recd D (.deferred (some [])) :: (M all ++ A)) l)
    (hstop : ∀ D c pre x post, all = pre ++ x :: post → CS P none w0.heap.size w0 (mark D :: ds) c Q (recd D (.deferred (some [])) :: (Mx c (pre ++ [x]) ++ A)) l) :
    CS P none w0.heap.size w0 ds (.rangeFunc x #[t] .skip body) Q (M [] ++ A) l :=
  CS.rangeFunc hg he hi M Mx h0 (fun _ _ _ _ k => CS.skip k) hbody hdone hstop
/-- A loop whose round begins with one assignment. -/
theorem CS.rangeA {ty2 : TypeId} {ps2 : String} {af2 : Array Edge} (hg : evo l x = some (.func (.func gf) #[] lb.toArray)) (he : Ent P gf) (hi : Iter P w0 gf lb A lend all)
    (M : List X → List SA) (Mx : Code → List X → List SA) {l0 l1 : Value → List Value} (h0 : ∀ v, lset l t v = some (l0 v)) (ht : t < l.length) (h1 : ∀ v, lset (l0 v) t2 v = some (l1 v))
    (hbody : ∀ (lr : Nat) (pre : List X) (x : X) (post : List X) (v : Value) (F : SA), all = pre ++ x :: post →
      CS P (some lr) w0.heap.size w0 [] body (roundQ w0.heap.size w0 M Mx (lend v x) (pre ++ [x]) F) (lend v x :: (M pre ++ [F])) (l1 v))
    (hdone : ∀ D, QS w0.heap.size w0 (mark D :: ds) Q .normal (recd D (.deferred (some [])) :: (M all ++ A)) l)
    (hstop : ∀ D c pre x post, all = pre ++ x :: post → CS P none w0.heap.size w0 (mark D :: ds) c Q (recd D (.deferred (some [])) :: (Mx c (pre ++ [x]) ++ A)) l) :
    CS P none w0.heap.size w0 ds (.rangeFunc x #[t] (.region id #[⟨some t2, .assign (.tmp t), ty2, ps2, af2, none⟩] false) body) Q (M [] ++ A) l :=
  CS.rangeFunc hg he hi M Mx h0 (fun v _ _ _ k => CS.region (os := [_]) (WS.det rfl rfl rfl (det_assign (by
    have := lset_get (h0 v) ht
    simpa [evo] using this)) (h1 v) (WS.done k))) hbody hdone hstop
end
theorem yield_lentS {lp : Nat} {v : Value} {C' C'' Cx' B : SA} {R : List SA}
    (h : ∀ (F : SA) (u : World), St n0 w0 [C', B, F] u → YieldAt (FW none) 0 P lp #[v] u fun e u' => (e = .returned (.bool true) ∧ St n0 w0 [C'', B, F] u') ∨ (e = .returned (.bool false) ∧ St n0 w0 [Cx', B, F] u'))
    {u : World} (hu : St n0 w0 (B :: C' :: R) u) : YieldAt (FW none) 0 P lp #[v] u fun e u' => ∃ b, e = .returned (.bool b) ∧ St n0 w0 (B :: cond b C'' Cx' :: R) u' := by
  have p1 : ∀ {C1 : SA}, (B :: C1 :: R).Perm (R ++ [C1, B]) := (List.Perm.swap _ _ _).trans (List.perm_append_comm (l₁ := [_, _]))
  have p2 : ∀ {C1 : SA}, [star R, C1, B].Perm [C1, B, star R] := List.perm_append_comm (l₁ := [_]) (l₂ := [_, _])
  refine (h (star R) u ((hu.perm p1).pack.perm p2)).mono ?_
  rintro e u' (⟨rfl, h⟩ | ⟨rfl, h⟩)
  · exact ⟨true, rfl, (St.unpack (h.perm p2.symm)).perm p1.symm⟩
  · exact ⟨false, rfl, (St.unpack (h.perm p2.symm)).perm p1.symm⟩
theorem WS.unpack {L1 L2 : List SA} (k : WS P ro n0 w0 ds ops Q (L1 ++ L2) rest l) : WS P ro n0 w0 ds ops Q (star L1 :: L2) rest l := fun u hu => k u hu.unpack
theorem retFs {v : Value} {Ls : List SA} {w u : World} (hu : St w.heap.size w L u) (hp : L.Perm Ls) : RetF w v (star Ls) (.returned v) u := by
  have h := hu.perm hp
  rw [← List.append_nil Ls] at h
  exact retF (j := 0) rfl u h.pack
theorem put_row : ∀ (r z1 pre z2 : List Value) (off j0 : Nat), pre.length = off + j0 → z1.length = r.length →
    (r.zipIdx j0).foldl (fun (cs : Array Value) (x : Value × Nat) => cs.setIfInBounds (off + x.2) x.1) (pre ++ (z1 ++ z2)).toArray = (pre ++ (r ++ z2)).toArray
  | [], z1, pre, z2, off, j0, _, hz => by
    have : z1 = [] := List.eq_nil_of_length_eq_zero (by simpa using hz)
    subst this; simp
  | c :: r, [], pre, z2, off, j0, _, hz => by simp at hz
  | c :: r, y :: z1, pre, z2, off, j0, hp, hz => by
    have ih := put_row r z1 (pre ++ [c]) z2 off (j0 + 1) (by simp; omega) (by simpa using hz)
    have h1 : (pre ++ (y :: z1 ++ z2)).toArray.setIfInBounds (off + j0) c = (pre ++ [c] ++ (z1 ++ z2)).toArray := by
      rw [← hp]
      simp [List.set_append]
    rw [List.zipIdx_cons, List.foldl_cons]
    show List.foldl _ ((pre ++ (y :: z1 ++ z2)).toArray.setIfInBounds (off + j0) c) _ = _
    rw [h1, ih]
    simp
theorem fill_k (k : Nat) : ∀ (rows : List (List Value)) (i : Nat) (pre : List Value), pre.length = i * k → (∀ r ∈ rows, r.length = k) →
    ∀ z : List Value, z.length = rows.length * k → Instr.fill (fun i => some (i * k, k)) (pre ++ z).toArray ((rows.zipIdx i).map fun (r, j) => (j, Value.agg r.toArray)) = some (pre ++ rows.flatten).toArray
  | [], _, _, _, _, z, hz => by
    have : z = [] := List.eq_nil_of_length_eq_zero (by simpa using hz)
    subst this; simp [Instr.fill]
  | r :: rows, i, pre, hp, hr, z, hz => by
    have hrk := hr r (by simp)
    have hzl : z.length = k + rows.length * k := by rw [hz, List.length_cons, Nat.succ_mul, Nat.add_comm]
    have ez : z = z.take k ++ z.drop k := (List.take_append_drop k z).symm
    have hz1 : (z.take k).length = r.length := by simp; omega
    have hv : (Value.agg r.toArray).cells = r.toArray := rfl
    simp only [List.zipIdx_cons, List.map_cons, Instr.fill, hv]
    rw [if_neg (by simp; omega)]
    have h1 := put_row r (z.take k) pre (z.drop k) (i * k) 0 (by omega) hz1
    rw [← ez] at h1
    have h2 : Array.foldl (fun (cs : Array Value) (x : Value × Nat) => cs.setIfInBounds (i * k + x.2) x.1) (pre ++ z).toArray r.toArray.zipIdx = (pre ++ (r ++ z.drop k)).toArray := by
      rw [← h1]; simp
    rw [h2]
    have ih := fill_k k rows (i + 1) (pre ++ r) (by simp [hp, hrk, Nat.succ_mul]) (fun x hx => hr x (by simp [hx])) (z.drop k) (by simp; omega)
    simpa using ih
theorem WS.buildSliceK {T e : TypeId} {by_ i n k : Nat} {pl : List (Nat × Operand)} {rows : List (List Value)} {zc : List Value} (hT : sl P T = some (e, k, by_)) (hz : zv P e = some zc)
    (hp : (pl.map fun (j, x) => (j, ev l x)) = (rows.zipIdx).map fun (r, j) => (j, Value.agg r.toArray)) (hn : rows.length = n) (hn0 : 0 < n * k) (hn2 : n * k ≤ 16777216) (h1 : ∀ r ∈ rows, r.length = k)
    {l' : Value → List Value} (hl : ∀ v, lset l i v = some (l' v)) (kk : ∀ v, WS P ro n0 w0 ds ops Q (osl e k v n rows.flatten :: L) rest (l' v)) :
    WS P ro n0 w0 ds ops Q L (⟨some i, .buildSlice T n pl.toArray, ty, ps, af, none⟩ :: rest) l := by
  subst hn
  refine WS.world rfl rfl fun u hu => ?_
  obtain ⟨inf, hu1, hi, hs, hby⟩ := sl_spec hT
  unfold zv at hz
  rw [hi] at hz
  cases hz2 : inf.zero with
  | none => simp [hz2] at hz
  | some zz =>
    simp [hz2] at hz
    have hfl : rows.flatten.length = rows.length * k := by
      clear hp hn0 hn2 kk hl
      induction rows with
      | nil => simp
      | cons r rows ih => simp only [List.flatten_cons, List.length_append, List.length_cons, ih fun x hx => h1 x (by simp [hx]), h1 r (by simp), Nat.succ_mul]; omega
    refine ⟨.slice (some ⟨u.heap.size, 0, none⟩) rows.length rows.length, u.alloc (.cells rows.flatten.toArray e), ?_, ?_⟩
    · have hf : ∀ A : Array Value, A.size = rows.length * k → Instr.fill (fun i => some (i * k, k)) A (List.map (fun x => (x.fst, ev l x.snd)) pl) = some rows.flatten.toArray := fun A hA => by
        have := fill_k k rows 0 [] (by simp) h1 A.toList (by simpa using hA)
        rw [← hp] at this
        simpa using this
      have hlim : ¬ (16777216 < rows.length * k) := by omega
      have h0 : ¬ (rows.length * k = 0) := by omega
      have h0' : ¬ (rows.length = 0 ∨ k = 0) := by rw [← Nat.mul_eq_zero]; exact h0
      have h2 := hf ((Array.range (rows.length * k)).map (zz.cells[· % zz.cells.size]!)) (by simp)
      have h01 := fun h => h0' (.inl h)
      have h02 := fun h => h0' (.inr h)
      have h03 : rows ≠ [] := fun h => h01 (by simp [h])
      simp [execOp, Instr.buildSlice, run_underlying hu1, sizeOf, typeInfo, hi, hs, h03, h02, newRow, hlim, zeroValue, hz2, h2]
      exact fun h => absurd h h0
    · rw [put_some, lset_of (hl _)]
      refine kk _ _ (hu.cons (T := fun k => k = u.heap.size) ((Below.refl _ u).alloc (Nat.le_refl _) _) ⟨?_, hfl, .inr ⟨u.heap.size, rows.length, _, rfl, Nat.zero_le _, World.alloc_heap_new u _, Nat.le_refl _, ?_, ?_, ?_⟩⟩ (fun k hk => by omega))
      · intro k; simp [Value.ownBlock]; exact eq_comm
      · have : 0 < k := Nat.pos_of_ne_zero fun h => by simp [h] at hn0
        have := Nat.le_mul_of_pos_right rows.length this
        simp only [maxLen]; omega
      · simpa using hfl
      · simp only [List.toList_toArray]; exact List.take_of_length_le (by omega)
/-- An operation whose guard says no. -/
theorem WS.unwanted {o : Oper} {i : Nat} (hd : o.dst = some i) (hw : Region.wanted o (yielded ops l.toArray) = false) {l' : List Value} (hl : lset l i undef = some l') (k : WS P ro n0 w0 ds ops Q L rest l') : WS P ro n0 w0 ds ops Q L (o :: rest) l := by
  intro u hu
  unfold wpListIn
  rw [if_neg (by simp [hw]), hd, put_some, lset_of hl]
  exact ⟨fun _ _ => trivial, k u hu⟩
theorem St.storeO {e : TypeId} {v y : Value} {n m j : Nat} {xs : List Value} {u : World} (h : St n0 w0 L u) (hj : L[j]? = some (osl e 1 v n xs)) (hm : m < xs.length) :
    St n0 w0 (L.set j (osl e 1 v n (xs.set m y))) (u.setCell (sla v m) y) := by
  obtain ⟨T, hT, ⟨hS, hl, h2⟩, hc⟩ := h.upd hj
  rcases h2 with ⟨rfl, rfl⟩ | ⟨b, cap, cur, rfl, hb, hg, hn, hcap, hcur, htake⟩
  · simp at hl; subst hl; simp at hm
  · have hb' := hT b ((hS b).2 rfl)
    have es : sla (.slice (some ⟨b, 0, none⟩) n cap) m = ⟨b, m, none⟩ := by simp [sla, slb, slo]
    rw [es]
    refine hc _ _ (fun k => k = b) ((Below.refl _ u).setCell (p := ⟨b, m, none⟩) hb' y) (fun k hk o ho => ?_) ⟨fun k => ?_, by simpa using hl, .inr ⟨b, cap, cur.setIfInBounds m y, rfl, hb, heap_setCell_same u b m cur e y hg, hn, hcap, by simpa using hcur, ?_⟩⟩
      (fun k hk => by subst hk; exact ⟨hb', .inl ((hS _).2 rfl)⟩)
    · rw [Below.heap_setCell _ _ _ _ (fun e => hk.2.2 ((hS k).2 (by rw [e]; rfl)))]
      exact ho
    · exact ⟨fun h => by rw [h]; rfl, fun h => by simpa [Value.ownBlock, eq_comm] using h⟩
    · rw [← htake]
      simp [List.take_set]
theorem WS.storeO {T e : TypeId} {x y : Operand} {v z : Value} {m n j : Nat} {k : Bool} {xs : List Value} (hx : evo l x = some (.pointer (some (sla v m)))) (hj : L[j]? = some (osl e 1 v n xs)) (hm : m < xs.length)
    (hy : evo l y = some z) (h1 : z.oneCell' = true) (hT : tk P T = some (k, 1))
    {L' : List SA} (hL : lset L j (osl e 1 v n (xs.set m z)) = some L') (kk : WS P ro n0 w0 ds ops Q L' rest l) :
    WS P ro n0 w0 ds ops Q L (⟨none, .store T x y, ty, ps, af, none⟩ :: rest) l := by
  (replace hx := ev_of hx; replace hy := ev_of hy)
  rw [← lset_of hL] at kk
  refine WS.world_skip rfl rfl rfl fun u hu => ⟨u.setCell (sla v m) z, ?_, kk _ (hu.storeO hj hm)⟩
  obtain ⟨T', _, ⟨_, hl, h2⟩, _⟩ := hu.upd hj
  rcases h2 with ⟨rfl, rfl⟩ | ⟨b, cap, cur, rfl, hb, hg, hn, hcap, hcur, htake⟩
  · simp at hl; subst hl; simp at hm
  have es : sla (.slice (some ⟨b, 0, none⟩) n cap) m = ⟨b, m, none⟩ := by simp [sla, slb, slo]
  rw [es] at hx ⊢
  have hlt : m < cur.size := by rw [hcur]; omega
  have hcell : u.cell? ⟨b, m, none⟩ = some cur[m] := by rw [cell_of_row u b m _ e (0, 0) hg]; simp [hlt]
  have hfr : u.frozen? ⟨b, m, none⟩ = false := frozen_of_row u b m cur e hg
  have hcs : z.cells = #[z] := by cases z <;> simp_all [Value.cells, Value.oneCell']
  simp [execOp, hx, hy, Instr.storeAt, Instr.sureAddr, storeVar, (tk_spec hT u).2, hcs, storeCells, addr_add, run_store P u ⟨b, m, none⟩ z .plain h1, hcell, hfr]
theorem WS.storeOI {T e : TypeId} {x y : Operand} {v : Value} {i z : Int} {j : Nat} {k : Bool} {xs : List Int} (hx : evo l x = some (.pointer (some (sla v i.toNat)))) (hj : L[j]? = some (oints e v xs)) (h : 0 ≤ i ∧ i < xs.length)
    (hy : evo l y = some (.int .i64 z)) (hT : tk P T = some (k, 1))
    {L' : List SA} (hL : lset L j (oints e v (xs.set i.toNat z)) = some L') (kk : WS P ro n0 w0 ds ops Q L' rest l) :
    WS P ro n0 w0 ds ops Q L (⟨none, .store T x y, ty, ps, af, none⟩ :: rest) l := by
  refine WS.storeO hx hj (by simp [ints]; omega) hy rfl hT (L' := L') ?_ kk
  rw [← hL]
  simp [oints, ints, List.map_set]
theorem WS.makeInts {T e : TypeId} {by_ : Nat} {x y : Operand} {i : Nat} {n : Int} (hT : sl P T = some (e, 1, by_)) (hx : evo l x = some (.int .i64 n)) (hy : evo l y = some (.int .i64 n)) (hz : zv P e = some [.int .i64 0])
    (h0 : 0 ≤ n) (hb : (by_ : Int) * n ≤ 281474976710656) (hm : n ≤ 9223372036854775807)
    {l' : Value → List Value} (hl : ∀ v, lset l i v = some (l' v)) (k : ∀ v, WS P ro n0 w0 ds ops Q (oints e v (List.replicate n.toNat 0) :: L) rest (l' v)) :
    WS P ro n0 w0 ds ops Q L (⟨some i, .makeSlice T x y, ty, ps, af, none⟩ :: rest) l := by
  refine WS.makeSlice (z := e) hT hx hy hz rfl h0 rfl hb hm hl fun v => ?_
  have := k v
  unfold oints ints at this
  have e1 : List.map (Value.int .i64) (List.replicate n.toNat 0) = (List.replicate n.toNat [Value.int .i64 0]).flatten := by
    generalize n.toNat = m
    induction m with
    | zero => rfl
    | succ m ih => rw [List.replicate_succ, List.replicate_succ, List.flatten_cons, List.map_cons, ih]; rfl
  rw [e1] at this
  simpa using this
end

end Go.Proofs.Ytldagbcceefcdaa

