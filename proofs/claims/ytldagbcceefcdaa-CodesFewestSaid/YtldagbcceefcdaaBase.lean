import Derived.RangeFuncNested
import Derived.OrdersIn
import Derived.Still
import Derived.TacticsIn
import Derived.WalkKit
import Derived.Deep.Quiet
/- part Sep -/
/- The ground of all proofs of this seat: assertions on memory as a list of parts with footprints apart from each other, and how they stand when memory grows or one part is written. No program in sight. -/
namespace Go.Proofs.Ytldagbcceefcdaa
set_option linter.unusedVariables false
set_option linter.unusedSimpArgs false
open Go.RowKit

/-- The fence that lets everything by, outside a round or in the round of a loop. -/
def FW (ro : Option Nat) : Fence := { fn := fun _ => True, depth := none, alive := false, round := ro }

/-- Each block of the set stands as it stood. -/
def KeepC (S : Nat → Prop) (u u' : World) : Prop :=
  ∀ k, S k → ∀ o, u.heap[k]? = some o → u'.heap[k]? = some o

theorem KeepC.sub {S S' : Nat → Prop} {u u' : World} (h : KeepC S u u') (hs : ∀ k, S' k → S k) : KeepC S' u u' :=
  fun k hk => h k (hs k hk)

theorem KeepC.of_below {B : Nat} {u u' : World} (h : Below B u u') : KeepC (fun k => k < B) u u' :=
  fun k hk o hc => (h.block k hk).trans hc

/-- A part of memory: what holds of it hangs on the blocks of its footprint alone. -/
structure SA where
  h : (Nat → Prop) → World → Prop
  loc : ∀ S u u', h S u → KeepC S u u' → h S u'
  dom : ∀ S u k, h S u → S k → k < u.heap.size

def Star : List SA → (Nat → Prop) → World → Prop
  | [], _, _ => True
  | A :: L, S, u => ∃ T, (∀ k, T k → S k) ∧ A.h T u ∧ Star L (fun k => S k ∧ ¬ T k) u

theorem Star.keep : ∀ {L : List SA} {S S' : Nat → Prop} {u u' : World}, Star L S u → KeepC S u u' →
    (∀ k, S k → k < u.heap.size → S' k) → Star L S' u'
  | [], _, _, _, _, _, _, _ => trivial
  | A :: L, S, S', u, u', ⟨T, hT, hA, hL⟩, hk, hs =>
    ⟨T, fun k h => hs k (hT k h) (A.dom T u k hA h), A.loc T u u' hA (hk.sub hT),
      Star.keep hL (hk.sub fun _ h => h.1) fun k h hlt => ⟨hs k h.1 hlt, h.2⟩⟩

theorem Star.upd : ∀ {L : List SA} {j : Nat} {A : SA} {S : Nat → Prop} {u : World}, L[j]? = some A → Star L S u →
    ∃ T, (∀ k, T k → S k) ∧ A.h T u ∧ ∀ (u' : World) (B : SA) (T' : Nat → Prop), KeepC (fun k => S k ∧ ¬ T k) u u' →
      B.h T' u' → (∀ k, T' k → S k ∧ (T k ∨ u.heap.size ≤ k)) → Star (L.set j B) S u'
  | [], _, _, _, _, h, _ => by simp at h
  | A0 :: L, 0, A, S, u, h, ⟨T, hT, hA, hL⟩ => by
    obtain rfl : A0 = A := by simpa using h
    refine ⟨T, hT, hA, fun u' B T' hk hB hT' => ⟨T', fun k h => (hT' k h).1, hB, hL.keep hk fun k hk' hlt => ⟨hk'.1, fun h' => ?_⟩⟩⟩
    rcases (hT' k h').2 with h2 | h2
    · exact hk'.2 h2
    · omega
  | A0 :: L, j + 1, A, S, u, h, ⟨T0, hT0, hA0, hL⟩ => by
    obtain ⟨T, hT, hA, hc⟩ := Star.upd (j := j) (by simpa using h) hL
    refine ⟨T, fun k hk => (hT k hk).1, hA, fun u' B T' hk hB hT' => ?_⟩
    refine ⟨T0, hT0, A0.loc T0 u u' hA0 (hk.sub fun k h0 => ⟨hT0 k h0, fun h1 => (hT k h1).2 h0⟩), ?_⟩
    refine hc u' B T' (hk.sub fun k h => ⟨h.1.1, h.2⟩) hB fun k h => ?_
    obtain ⟨h1, h2⟩ := hT' k h
    refine ⟨⟨h1, fun h0 => ?_⟩, h2⟩
    rcases h2 with h2 | h2
    · exact (hT k h2).2 h0
    · have := A0.dom T0 u k hA0 h0
      omega

theorem Star.get {L : List SA} {j : Nat} {A : SA} {S : Nat → Prop} {u : World} (h : L[j]? = some A) (hs : Star L S u) : ∃ T, (∀ k, T k → S k) ∧ A.h T u := by
  obtain ⟨T, h1, h2, _⟩ := hs.upd h
  exact ⟨T, h1, h2⟩

theorem Star.erase : ∀ {L : List SA} {S : Nat → Prop} {u : World} (j : Nat), Star L S u → Star (L.eraseIdx j) S u
  | [], _, _, _, _ => trivial
  | _ :: _, _, _, 0, ⟨_, _, _, hL⟩ => hL.keep (fun _ _ _ h => h) fun _ h _ => h.1
  | _ :: _, _, _, j + 1, ⟨T, hT, hA, hL⟩ => ⟨T, hT, hA, Star.erase j hL⟩

/-- WHAT IS KNOWN OF THE WORLD IN A WALK: below n0 it is as w0 was; the parts stand beyond n0. -/
structure St (n0 : Nat) (w0 : World) (L : List SA) (u : World) : Prop where
  le : n0 ≤ w0.heap.size
  below : Below n0 w0 u
  star : Star L (fun k => n0 ≤ k) u

theorem St.nil {w : World} : St w.heap.size w [] w := ⟨Nat.le_refl _, Below.refl _ _, trivial⟩

theorem St.size {n0 : Nat} {w0 : World} {L : List SA} {u : World} (h : St n0 w0 L u) : n0 ≤ u.heap.size := Nat.le_trans h.le h.below.size

theorem St.ext {n0 : Nat} {w0 : World} {L : List SA} {u u' : World} (h : St n0 w0 L u) (hb : Below u.heap.size u u') : St n0 w0 L u' := by
  refine ⟨h.le, h.below.trans (hb.mono h.size), ?_⟩
  -- only blocks that lie in u count
  have h1 : Star L (fun k => n0 ≤ k ∧ k < u.heap.size) u := h.star.keep (fun _ _ _ h => h) fun k hk hlt => ⟨hk, hlt⟩
  exact h1.keep (fun k hk o hc => (hb.block k hk.2).trans hc) fun k hk _ => hk.1

theorem St.cons {n0 : Nat} {w0 : World} {L : List SA} {u u' : World} {A : SA} {T : Nat → Prop} (h : St n0 w0 L u) (hb : Below u.heap.size u u')
    (hA : A.h T u') (hT : ∀ k, T k → u.heap.size ≤ k) : St n0 w0 (A :: L) u' := by
  have h1 : Star L (fun k => n0 ≤ k ∧ k < u.heap.size) u := h.star.keep (fun _ _ _ h => h) fun k hk hlt => ⟨hk, hlt⟩
  refine ⟨h.le, (h.ext hb).below, T, fun k hk => ?_, hA, h1.keep (fun k hk o hc => (hb.block k hk.2).trans hc) fun k hk _ => ⟨hk.1, fun h' => ?_⟩⟩
  · have := hT k hk
    have := h.size
    omega
  · have := hT k h'
    omega

/-- One part is turned into another: what lay elsewhere lies as it lay. -/
theorem St.upd {n0 : Nat} {w0 : World} {L : List SA} {u : World} {A : SA} {j : Nat} (h : St n0 w0 L u) (hj : L[j]? = some A) :
    ∃ T, (∀ k, T k → n0 ≤ k) ∧ A.h T u ∧ ∀ (u' : World) (B : SA) (T' : Nat → Prop), Below n0 u u' → KeepC (fun k => n0 ≤ k ∧ k < u.heap.size ∧ ¬ T k) u u' →
      B.h T' u' → (∀ k, T' k → n0 ≤ k ∧ (T k ∨ u.heap.size ≤ k)) → St n0 w0 (L.set j B) u' := by
  obtain ⟨T, hT, hA, hc⟩ := h.star.upd hj
  refine ⟨T, hT, hA, fun u' B T' hb hk hB hT' => ⟨h.le, h.below.trans hb, hc u' B T' (fun k hk' o hcell => ?_) hB hT'⟩⟩
  exact hk k ⟨hk'.1, (Array.getElem?_eq_some_iff.1 hcell).1, hk'.2⟩ o hcell

theorem St.get {n0 : Nat} {w0 : World} {L : List SA} {u : World} {A : SA} {j : Nat} (h : St n0 w0 L u) (hj : L[j]? = some A) : ∃ T, (∀ k, T k → n0 ≤ k) ∧ A.h T u := h.star.get hj

theorem St.erase {n0 : Nat} {w0 : World} {L : List SA} {u : World} (j : Nat) (h : St n0 w0 L u) : St n0 w0 (L.eraseIdx j) u := ⟨h.le, h.below, h.star.erase j⟩

/-! ### A block of cells -/
def blk (b : Nat) (c : List Value) (e : TypeId) : SA where
  h S u := (∀ k, S k ↔ k = b) ∧ u.heap[b]? = some (.cells c.toArray e (0, 0))
  loc S u u' h hk := ⟨h.1, hk b ((h.1 b).2 rfl) _ h.2⟩
  dom S u k h hS := by
    obtain ⟨h1, h2⟩ := h
    rw [(h1 k).1 hS]
    exact (Array.getElem?_eq_some_iff.1 h2).1

theorem St.blk {n0 : Nat} {w0 : World} {L : List SA} {u : World} {b : Nat} {c : List Value} {e : TypeId} {j : Nat} (h : St n0 w0 L u) (hj : L[j]? = some (blk b c e)) :
    n0 ≤ b ∧ u.heap[b]? = some (.cells c.toArray e (0, 0)) := by
  obtain ⟨T, h1, h2, h3⟩ := h.get hj
  exact ⟨h1 b ((h2 b).2 rfl), h3⟩

theorem St.alloc {n0 : Nat} {w0 : World} {L : List SA} {u : World} (h : St n0 w0 L u) (c : List Value) (e : TypeId) :
    St n0 w0 (Go.Proofs.Ytldagbcceefcdaa.blk u.heap.size c e :: L) (u.alloc (.cells c.toArray e)) := by
  refine h.cons (T := fun k => k = u.heap.size) ((Below.refl _ u).alloc (Nat.le_refl _) _) ⟨fun k => Iff.rfl, ?_⟩ (fun k hk => by omega)
  exact World.alloc_heap_new u _

theorem St.store {n0 : Nat} {w0 : World} {L : List SA} {u : World} {b : Nat} {c : List Value} {e : TypeId} {j : Nat} (h : St n0 w0 L u) (hj : L[j]? = some (Go.Proofs.Ytldagbcceefcdaa.blk b c e))
    (i : Nat) (v : Value) : St n0 w0 (L.set j (Go.Proofs.Ytldagbcceefcdaa.blk b (c.set i v) e)) (u.setCell ⟨b, i, none⟩ v) := by
  obtain ⟨T, hT, ⟨hS, hb⟩, hc⟩ := h.upd hj
  refine hc _ _ (fun k => k = b) ((Below.refl _ u).setCell (p := ⟨b, i, none⟩) (hT b ((hS b).2 rfl)) v) (fun k hk o' hcell => ?_) ⟨fun k => Iff.rfl, ?_⟩ (fun k hk => by subst hk; exact ⟨hT _ ((hS _).2 rfl), .inl ((hS _).2 rfl)⟩)
  · rw [Below.heap_setCell _ _ _ _ (fun e => hk.2.2 ((hS k).2 e))]
    exact hcell
  · have := heap_setCell_same u b i c.toArray e v hb
    rw [this]
    simp

/-- The contract's word: this value, and nothing of what lay there has turned. -/
def RetB (w : World) (v : Value) : Ending → World → Prop := fun e w' => e = .returned v ∧ Below w.heap.size w w'

end Go.Proofs.Ytldagbcceefcdaa

/- part Step -/
/- The rules of the walk: what one operation hands back in every world of which the walk knows as much, and how code is left. No program in sight. -/
namespace Go.Proofs.Ytldagbcceefcdaa
set_option linter.unusedVariables false
set_option linter.unusedSimpArgs false
open Go.RowKit

def ev (l : List Value) : Operand → Value
  | .tmp t => l.getD t undef
  | .const v => v
  | .global g => .pointer (some ⟨g, 0, none⟩)
  | .func f => .func (.func f) #[] #[]

/-- The same, asked so that 'rfl' lays the value open. -/
def evo (l : List Value) : Operand → Option Value
  | .tmp t => l[t]?
  | .const v => some v
  | .global g => some (.pointer (some ⟨g, 0, none⟩))
  | .func f => some (.func (.func f) #[] #[])
theorem ev_of {l : List Value} {x : Operand} {v : Value} (h : evo l x = some v) : ev l x = v := by
  cases x <;> simp_all [evo, ev, List.getD]
def evs (l : List Value) : List Operand → Option (List Value)
  | [] => some []
  | x :: xs => match evo l x, evs l xs with
    | some v, some vs => some (v :: vs)
    | _, _ => none
theorem evs_of {l : List Value} : ∀ {xs : List Operand} {vs : List Value}, evs l xs = some vs → xs.map (ev l) = vs
  | [], vs, h => by simp [evs] at h; simp [h]
  | x :: xs, vs, h => by
    unfold evs at h
    split at h
    · rename_i v vs' h1 h2
      simp at h
      subst h
      simp [ev_of h1, evs_of h2]
    · simp at h
/-- A list with one place turned, asked so that 'rfl' lays it open. -/
def lset {α : Type} : List α → Nat → α → Option (List α)
  | [], _, _ => some []
  | _ :: l, 0, v => some (v :: l)
  | x :: l, n + 1, v => match lset l n v with
    | some r => some (x :: r)
    | none => none
theorem lset_of {α : Type} : ∀ {l : List α} {n : Nat} {v : α} {r : List α}, lset l n v = some r → l.set n v = r
  | [], n, v, r, h => by simp [lset] at h; subst h; simp
  | x :: l, 0, v, r, h => by simp [lset] at h; subst h; simp
  | x :: l, n + 1, v, r, h => by
    unfold lset at h
    split at h
    · rename_i r' h'
      simp at h
      subst h
      simp [lset_of h']
    · simp at h

theorem eval_ev (l : List Value) (ds : List Deferred) : (Act.mk l.toArray ds).eval = ev l := by
  funext x
  cases x <;> simp [Act.eval, ev, List.getD]

/-- The function is entered when it is called. -/
def Ent (P : Program) (f : FuncId) : Prop := ∀ args w, (callFunc f args).run P w = .ok (.enter f args) w

theorem ent_of {P : Program} {f : FuncId} {fn : Func} {c : Code} (hf : P.funcs[f]? = some fn) (hn : (fn.name == "runtime.NumGoroutine") = false) (hb : fn.body = some c) : Ent P f := by
  intro args w
  have h1 : fn.name ≠ "runtime.NumGoroutine" := by simpa using hn
  simp [callFunc, hf, h1, hb, mark]

/-- What is asked once an operation carried out in u has yielded this: the value v in the world that it got; or a call that hands back v and turns nothing that lay there. -/
def DetUpon (P : Program) (w : World) (v : Value) : Result Next → Prop
  | .ok (.value u) w' => w' = w ∧ u = v
  | .ok (.enter f args) w' => w' = w ∧ Calls P f args w (RetB w v)
  | _ => False

/-- Operation o, in every world of C, hands back v, and turns nothing. -/
def Det (P : Program) (C : World → Prop) (o : Oper) (l : List Value) (v : Value) : Prop :=
  ∀ u, C u → DetUpon P u v ((execOp (ev l) o).run P u)

def calm : Op → Bool
  | .defer _ => false
  | .select _ _ => false
  | _ => true

theorem semAt_calm {ro : Option Nat} {ρ : Operand → Value} {o : Oper} (h : calm o.op = true) : o.semAt ro ρ = execOp ρ o := by
  cases ro with
  | none => simp [Oper.semAt_none]
  | some l => exact Oper.semAt_some l ρ o fun c hc => by rw [hc] at h; cases h

section
variable (P : Program) (ro : Option Nat) (n0 : Nat) (w0 : World) (ds : List Deferred)

/-- The rest of a region, from frame l on, in every world that the parts L describe. -/
def WS (ops : Array Oper) (Q : Exit → Act → World → Prop) (L : List SA) (rest : List Oper) (l : List Value) : Prop :=
  ∀ u, St n0 w0 L u → wpListIn (FW ro) 0 P ops Q rest ⟨l.toArray, ds⟩ u

/-- Code, likewise. -/
def CS (c : Code) (Q : Exit → Act → World → Prop) (L : List SA) (l : List Value) : Prop :=
  ∀ u, St n0 w0 L u → c.wpIn (FW ro) 0 P Q ⟨l.toArray, ds⟩ u

/-- What stands behind. -/
def QS (Q : Exit → Act → World → Prop) (e : Exit) (L : List SA) (l : List Value) : Prop :=
  ∀ u, St n0 w0 L u → Q e ⟨l.toArray, ds⟩ u
end

section
variable {P : Program} {ro : Option Nat} {n0 : Nat} {w0 : World} {ds : List Deferred} {ops : Array Oper} {Q : Exit → Act → World → Prop} {L : List SA}
  {rest : List Oper} {l : List Value}

theorem wanted_none {op : Op} {d : Option Tmp} {t : TypeId} {p : String} {af : Array Edge} {y : Nat → Option Bool} : Region.wanted ⟨d, op, t, p, af, none⟩ y = true := rfl

theorem callsIn_FW {n : Nat} {f : FuncId} {args : Array Value} {w : World} {R : Ending → World → Prop} (h : Calls P f args w R) : CallsIn (FW ro) n P f args w R :=
  ⟨trivial, fun cs _ => let ⟨e, w', fr, r, s, x⟩ := h cs; ⟨e, w', fr, r, comesIn_wide.2 s, x⟩⟩

theorem quiet_uponIn {o : Oper} {a : Act} {u : World} {v : Value} {r : Result Next} {K : Act → World → Prop}
    (h : DetUpon P u v r) (hK : ∀ u', Below u.heap.size u u' → K (a.put o.dst v) u') : o.uponIn (FW ro) 0 P a K Q r := by
  cases r with
  | halt x w' => simp only [DetUpon] at h
  | ok n w' =>
    cases n <;> simp only [DetUpon] at h <;> simp only [Oper.uponIn]
    case value x => obtain ⟨rfl, rfl⟩ := h; exact hK _ (Below.refl _ _)
    case enter f args =>
      obtain ⟨rfl, hc⟩ := h
      exact ⟨fun h => by simp [FW] at h, callsIn_FW (hc.mono fun e w'' ⟨he, hw''⟩ => by subst he; exact hK _ hw'')⟩

theorem put_some (l : List Value) (d : Nat) (v : Value) : (Act.mk l.toArray ds).put (some d) v = ⟨(l.set d v).toArray, ds⟩ := by
  simp [Act.put]
theorem put_none (l : List Value) (v : Value) : (Act.mk l.toArray ds).put none v = ⟨l.toArray, ds⟩ := rfl

theorem WS.det {o : Oper} {d : Nat} {v : Value} (hc : calm o.op = true) (hd : o.dst = some d) (hg : o.guard = none) (h : Det P (St n0 w0 L) o l v)
    {l' : List Value} (hl : lset l d v = some l') (k : WS P ro n0 w0 ds ops Q L rest l') : WS P ro n0 w0 ds ops Q L (o :: rest) l := by
  rw [← lset_of hl] at k
  intro u hu
  unfold wpListIn
  rw [if_pos (by simp [Region.wanted, hg])]
  refine ⟨fun _ _ => trivial, ?_⟩
  rw [semAt_calm hc, eval_ev]
  refine quiet_uponIn (h u hu) fun u' hu' => ?_
  rw [hd, put_some]
  exact k u' (hu.ext hu')

/-- A guarded operation: b says whether it is carried out. -/
theorem WS.guard {o : Oper} {d : Nat} {v : Value} {g : Nat × Bool} {b : Bool} (hc : calm o.op = true) (hd : o.dst = some d) (hg : o.guard = some g)
    (hb : (yielded ops l.toArray g.1 == some g.2) = b) (h : b = true → Det P (St n0 w0 L) o l v)
    {l' : List Value} (hl : lset l d (cond b v undef) = some l') (k : WS P ro n0 w0 ds ops Q L rest l') : WS P ro n0 w0 ds ops Q L (o :: rest) l := by
  rw [← lset_of hl] at k
  intro u hu
  unfold wpListIn
  have hw : Region.wanted o (yielded ops (Act.mk l.toArray ds).tmps) = b := by
    obtain ⟨j, want⟩ := g
    simp only [Region.wanted, hg]
    exact hb
  rw [hw]
  cases b with
  | true =>
    rw [if_pos rfl]
    refine ⟨fun _ _ => trivial, ?_⟩
    rw [semAt_calm hc, eval_ev]
    refine quiet_uponIn (h rfl u hu) fun u' hu' => ?_
    rw [hd, put_some]
    exact k u' (hu.ext hu')
  | false =>
    rw [if_neg (by simp)]
    refine ⟨fun _ _ => trivial, ?_⟩
    rw [hd, put_some]
    exact k u hu

theorem WS.eq {l' : List Value} (h : l = l') (k : WS P ro n0 w0 ds ops Q L rest l') : WS P ro n0 w0 ds ops Q L rest l := h ▸ k

theorem WS.done (k : QS n0 w0 ds Q .normal L l) : WS P ro n0 w0 ds ops Q L [] l := fun u hu => k u hu

/-! ### Code -/
theorem CS.region {id : Nat} {os : List Oper} (k : WS P ro n0 w0 ds os.toArray Q L os l) : CS P ro n0 w0 ds (.region id os.toArray false) Q L l :=
  fun u hu => wpIn_region_lit (k u hu)
theorem CS.seq {x y : Code} (k : CS P ro n0 w0 ds x (Exit.then (y.wpIn (FW ro) 0 P Q) Q) L l) : CS P ro n0 w0 ds (.seq x y) Q L l := fun u hu => wpIn_seq (k u hu)
theorem CS.skip (k : QS n0 w0 ds Q .normal L l) : CS P ro n0 w0 ds .skip Q L l := fun u hu => wpIn_skip (k u hu)
theorem CS.ret (k : QS n0 w0 ds Q .ret L l) : CS P ro n0 w0 ds .ret Q L l := fun u hu => wpIn_ret (k u hu)
theorem CS.leave {id : Nat} (k : QS n0 w0 ds Q (.exit id) L l) : CS P ro n0 w0 ds (.exit id) Q L l := fun u hu => wpIn_exit (k u hu)
theorem CS.block {id : Nat} {c : Code} (k : CS P ro n0 w0 ds c (Exit.inBlock id Q) L l) : CS P ro n0 w0 ds (.block id c) Q L l := fun u hu => wpIn_block (k u hu)
theorem CS.cond {c : Operand} {x y : Code} {b : Bool} (hc : evo l c = some (.bool b)) (kt : b = true → CS P ro n0 w0 ds x Q L l) (kf : b = false → CS P ro n0 w0 ds y Q L l) :
    CS P ro n0 w0 ds (.cond c x y) Q L l := fun u hu => by
  refine wpIn_cond_split (t := b) (by rw [eval_ev]; exact ev_of hc) (fun h => kt h u hu) (fun h => kf h u hu)
theorem CS.eq {c : Code} {l' : List Value} (h : l = l') (k : CS P ro n0 w0 ds c Q L l') : CS P ro n0 w0 ds c Q L l := h ▸ k

theorem QS.then_normal {K : Act → World → Prop} (k : ∀ u, St n0 w0 L u → K ⟨l.toArray, ds⟩ u) : QS n0 w0 ds (Exit.then K Q) .normal L l := k
theorem QS.then_code {y : Code} {Q' : Exit → Act → World → Prop} (k : CS P ro n0 w0 ds y Q' L l) : QS n0 w0 ds (Exit.then (y.wpIn (FW ro) 0 P Q') Q) .normal L l := k
theorem QS.then_ret {K : Act → World → Prop} (k : QS n0 w0 ds Q .ret L l) : QS n0 w0 ds (Exit.then K Q) .ret L l := k
theorem QS.then_exit {K : Act → World → Prop} {i : Nat} (k : QS n0 w0 ds Q (.exit i) L l) : QS n0 w0 ds (Exit.then K Q) (.exit i) L l := k
theorem QS.block_normal {id : Nat} (k : QS n0 w0 ds Q .normal L l) : QS n0 w0 ds (Exit.inBlock id Q) .normal L l := k
theorem QS.block_ret {id : Nat} (k : QS n0 w0 ds Q .ret L l) : QS n0 w0 ds (Exit.inBlock id Q) .ret L l := k
theorem QS.block_exit {id : Nat} (k : QS n0 w0 ds Q .normal L l) : QS n0 w0 ds (Exit.inBlock id Q) (.exit id) L l := fun u hu => by
  simp only [Exit.inBlock, if_true]; exact k u hu
theorem QS.block_exit_ne {id i : Nat} (h : (i == id) = false) (k : QS n0 w0 ds Q (.exit i) L l) : QS n0 w0 ds (Exit.inBlock id Q) (.exit i) L l := fun u hu => by
  have : ¬ i = id := by simpa using h
  simp only [Exit.inBlock, if_neg this]; exact k u hu

/-! ### The frame at a loop's head: what each slot holds, or nothing is said of it -/
def FM : List (Option Value) → List Value → Prop
  | [], [] => True
  | some v :: p, x :: l => x = v ∧ FM p l
  | none :: p, _ :: l => FM p l
  | _, _ => False

/-- The frame that fits: what is not said is t's. -/
def fill : List (Option Value) → (Nat → Value) → Nat → List Value
  | [], _, _ => []
  | some v :: p, t, i => v :: fill p t (i + 1)
  | none :: p, t, i => t i :: fill p t (i + 1)

theorem FM.fill : ∀ {p : List (Option Value)} {l : List Value} (i : Nat), FM p l → ∃ t, l = fill p t i
  | [], [], _, _ => ⟨fun _ => undef, rfl⟩
  | [], _ :: _, _, h => h.elim
  | some v :: p, [], _, h => h.elim
  | none :: p, [], _, h => h.elim
  | some v :: p, x :: l, i, h => by
    obtain ⟨rfl, h2⟩ := h
    obtain ⟨t, rfl⟩ := h2.fill (i + 1)
    exact ⟨t, rfl⟩
  | none :: p, x :: l, i, h => by
    obtain ⟨t, rfl⟩ := FM.fill (p := p) (l := l) (i + 1) h
    refine ⟨fun k => if k = i then x else t k, ?_⟩
    simp only [Go.Proofs.Ytldagbcceefcdaa.fill, if_true]
    congr 1
    have : ∀ (q : List (Option Value)) (j : Nat), i < j → Go.Proofs.Ytldagbcceefcdaa.fill q t j = Go.Proofs.Ytldagbcceefcdaa.fill q (fun k => if k = i then x else t k) j := by
      intro q
      induction q with
      | nil => intro j _; rfl
      | cons o q ih =>
        intro j hj
        cases o with
        | none => simp only [Go.Proofs.Ytldagbcceefcdaa.fill, if_neg (show ¬ j = i by omega)]; rw [ih (j + 1) (by omega)]
        | some v => simp only [Go.Proofs.Ytldagbcceefcdaa.fill]; rw [ih (j + 1) (by omega)]
    exact this p (i + 1) (by omega)

/-- A frame's pattern: as it stands, but for the slots that are forgotten, and those that are said anew. -/
def mask : List Value → List Nat → Nat → List (Option Value)
  | [], _, _ => []
  | v :: l, dead, i => (if dead.contains i then none else some v) :: mask l dead (i + 1)
def named : List (Option Value) → List (Nat × Value) → List (Option Value)
  | p, [] => p
  | p, (i, v) :: r => named (p.set i (some v)) r

theorem least {p : Nat → Prop} (h : ∃ k, p k) : ∃ k, p k ∧ ∀ j, p j → k ≤ j := by
  obtain ⟨k, hk⟩ := h
  induction k using Nat.strongRecOn with
  | _ k ih =>
    by_cases h : ∃ j, j < k ∧ p j
    · obtain ⟨j, hj, hp⟩ := h
      exact ih j hj hp
    · exact ⟨k, hk, fun j hj => Nat.le_of_not_lt fun hlt => h ⟨j, hlt, hj⟩⟩

/-- A loop: a state s says what the slots hold and which parts of memory there are. -/
theorem CS.loop {σ : Type} {c : Code} (pat : σ → List (Option Value)) (M : σ → List SA) (I : σ → Prop) (μ : σ → Nat) (s0 : σ)
    (hpat : FM (pat s0) l) (hM : M s0 = L) (h0 : I s0)
    (round : ∀ s t, I s → CS P ro n0 w0 ds c (Exit.then (fun a u => ∃ s' l', a = ⟨l'.toArray, ds⟩ ∧ FM (pat s') l' ∧ St n0 w0 (M s') u ∧ I s' ∧ μ s' < μ s) Q) (M s) (fill (pat s) t 0)) :
    CS P ro n0 w0 ds (.loop c) Q L l := by
  intro u hu
  have hmin : ∀ a u, (∃ k s l', a = (⟨l'.toArray, ds⟩ : Act) ∧ FM (pat s) l' ∧ St n0 w0 (M s) u ∧ I s ∧ μ s = k) →
      ∃ k, (∃ s l', a = (⟨l'.toArray, ds⟩ : Act) ∧ FM (pat s) l' ∧ St n0 w0 (M s) u ∧ I s ∧ μ s = k) ∧
        ∀ j, (∃ s l', a = (⟨l'.toArray, ds⟩ : Act) ∧ FM (pat s) l' ∧ St n0 w0 (M s) u ∧ I s ∧ μ s = j) → k ≤ j := fun a u h => least h
  refine wpIn_loop (fun a u => ∃ k s l', a = (⟨l'.toArray, ds⟩ : Act) ∧ FM (pat s) l' ∧ St n0 w0 (M s) u ∧ I s ∧ μ s = k)
    (fun a u => @dite Nat _ (Classical.propDecidable _) (fun h => (hmin a u h).choose) (fun _ => 0)) ⟨_, s0, l, rfl, hpat, hM ▸ hu, h0, rfl⟩ ?_
  intro a u h
  obtain ⟨⟨s, l', rfl, hf, hst, hI, hk⟩, hle⟩ := (hmin a u h).choose_spec
  obtain ⟨t, rfl⟩ := hf.fill 0
  refine Go.wpIn_mono (round s t hI u hst) ?_
  intro e a' u' hq
  cases e <;> try exact hq
  obtain ⟨s', l'', rfl, hf', hst', hI', hlt⟩ := hq
  have h' : ∃ k s l', (⟨l''.toArray, ds⟩ : Act) = (⟨l'.toArray, ds⟩ : Act) ∧ FM (pat s) l' ∧ St n0 w0 (M s) u' ∧ I s ∧ μ s = k := ⟨_, s', l'', rfl, hf', hst', hI', rfl⟩
  refine ⟨h', ?_⟩
  rw [dif_pos h', dif_pos h, ← hk]
  exact Nat.lt_of_le_of_lt ((hmin _ _ h').choose_spec.2 _ ⟨s', l'', rfl, hf', hst', hI', rfl⟩) hlt

end
end Go.Proofs.Ytldagbcceefcdaa

/- part Ops -/
/- What each kind of operation hands back. No program in sight. -/
namespace Go.Proofs.Ytldagbcceefcdaa
set_option linter.unusedVariables false
set_option linter.unusedSimpArgs false
open Go.RowKit

section
variable {P : Program} {C : World → Prop} {l : List Value} {d : Option Tmp} {ty : TypeId} {ps : String} {af : Array Edge} {g : Option (Nat × Bool)}

theorem det_move {x : Operand} {v : Value} (h : evo l x = some (v)) : Det P C ⟨d, .move x, ty, ps, af, g⟩ l v := fun u _ => by
  (replace h := ev_of h)
  simp [execOp, DetUpon, h]
theorem det_assign {x : Operand} {v : Value} (h : evo l x = some (v)) : Det P C ⟨d, .assign x, ty, ps, af, g⟩ l v := fun u _ => by
  (replace h := ev_of h)
  simp [execOp, DetUpon, h]
theorem det_pick {c x y : Operand} {b : Bool} (hc : evo l c = some (.bool b)) : Det P C ⟨d, .pick c x y, ty, ps, af, g⟩ l (cond b (ev l x) (ev l y)) := fun u _ => by
  (replace hc := ev_of hc)
  cases b <;> simp [execOp, DetUpon, hc, asBool]
/-- 'a && b' -/
theorem det_pick_and {c x y : Operand} {b r : Bool} (hc : evo l c = some (.bool b)) (hx : evo l x = some (cond b (.bool r) undef)) (hy : evo l y = some (.bool false)) :
    Det P C ⟨d, .pick c x y, ty, ps, af, g⟩ l (.bool (b && r)) := fun u hu => by
  (replace hx := ev_of hx; replace hy := ev_of hy)
  have := det_pick (P := P) (C := C) (d := d) (ty := ty) (ps := ps) (af := af) (g := g) (x := x) (y := y) hc u hu
  rw [hx, hy] at this
  cases b <;> exact this
/-- 'a || b' -/
theorem det_pick_or {c x y : Operand} {b r : Bool} (hc : evo l c = some (.bool b)) (hy : evo l y = some (cond (!b) (.bool r) undef)) (hx : evo l x = some (.bool true)) :
    Det P C ⟨d, .pick c x y, ty, ps, af, g⟩ l (.bool (b || r)) := fun u hu => by
  (replace hy := ev_of hy; replace hx := ev_of hx)
  have := det_pick (P := P) (C := C) (d := d) (ty := ty) (ps := ps) (af := af) (g := g) (x := x) (y := y) hc u hu
  rw [hx, hy] at this
  cases b <;> exact this

theorem det_add {T T' : TypeId} {x y : Operand} {a b : Int} (hx : evo l x = some (.int .i64 a)) (hy : evo l y = some (.int .i64 b)) (h : -9223372036854775808 ≤ a + b ∧ a + b ≤ 9223372036854775807) :
    Det P C ⟨d, .binOp .add T x y T', ty, ps, af, g⟩ l (.int .i64 (a + b)) := fun u _ => by
  (replace hx := ev_of hx; replace hy := ev_of hy)
  simp [execOp, DetUpon, hx, hy, eqGuard, binOp, Op.intArith, IntWalk.i64_in _ h]
theorem det_sub {T T' : TypeId} {x y : Operand} {a b : Int} (hx : evo l x = some (.int .i64 a)) (hy : evo l y = some (.int .i64 b)) (h : -9223372036854775808 ≤ a - b ∧ a - b ≤ 9223372036854775807) :
    Det P C ⟨d, .binOp .sub T x y T', ty, ps, af, g⟩ l (.int .i64 (a - b)) := fun u _ => by
  (replace hx := ev_of hx; replace hy := ev_of hy)
  simp [execOp, DetUpon, hx, hy, eqGuard, binOp, Op.intArith, IntWalk.i64_in _ h]
theorem det_mul {T T' : TypeId} {x y : Operand} {a b : Int} (hx : evo l x = some (.int .i64 a)) (hy : evo l y = some (.int .i64 b)) (h : -9223372036854775808 ≤ a * b ∧ a * b ≤ 9223372036854775807) :
    Det P C ⟨d, .binOp .mul T x y T', ty, ps, af, g⟩ l (.int .i64 (a * b)) := fun u _ => by
  (replace hx := ev_of hx; replace hy := ev_of hy)
  simp [execOp, DetUpon, hx, hy, eqGuard, binOp, Op.intArith, IntWalk.i64_in _ h]
/-- The sum as it wraps. -/
theorem det_subw {T T' : TypeId} {x y : Operand} {a b : Int} (hx : evo l x = some (.int .i64 a)) (hy : evo l y = some (.int .i64 b)) :
    Det P C ⟨d, .binOp .sub T x y T', ty, ps, af, g⟩ l (.int .i64 (IntKind.i64.wrap (a - b))) := fun u _ => by
  (replace hx := ev_of hx; replace hy := ev_of hy)
  simp [execOp, DetUpon, hx, hy, eqGuard, binOp, Op.intArith]
theorem det_rem {T T' : TypeId} {x y : Operand} {a b : Int} (hx : evo l x = some (.int .i64 a)) (hy : evo l y = some (.int .i64 b)) (ha : 0 ≤ a) (hb : 0 < b) :
    Det P C ⟨d, .binOp .rem T x y T', ty, ps, af, g⟩ l (.int .i64 (a % b)) := fun u _ => by
  (replace hx := ev_of hx; replace hy := ev_of hy)
  have : ¬ b = 0 := by omega
  simp [execOp, DetUpon, hx, hy, eqGuard, binOp, Op.intDiv, this, Int.tmod_eq_emod_of_nonneg ha]
theorem det_quo {T T' : TypeId} {x y : Operand} {a b : Int} (hx : evo l x = some (.int .i64 a)) (hy : evo l y = some (.int .i64 b)) (ha : 0 ≤ a) (hm : a ≤ 9223372036854775807) (hb : 0 < b) :
    Det P C ⟨d, .binOp .quo T x y T', ty, ps, af, g⟩ l (.int .i64 (a / b)) := fun u _ => by
  (replace hx := ev_of hx; replace hy := ev_of hy)
  have h0 : ¬ b = 0 := by omega
  have h1 : 0 ≤ a / b := Int.ediv_nonneg ha (by omega)
  have h2 : a / b ≤ a := Int.ediv_le_self b ha
  simp [execOp, DetUpon, hx, hy, eqGuard, binOp, Op.intDiv, h0, Int.tdiv_eq_ediv_of_nonneg ha, IntWalk.i64_in (a / b) ⟨by omega, by omega⟩]
theorem det_eq {T T' : TypeId} {x y : Operand} {k : IntKind} {a b : Int} (hx : evo l x = some (.int k a)) (hy : evo l y = some (.int k b)) :
    Det P C ⟨d, .binOp .eql T x y T', ty, ps, af, g⟩ l (.bool (decide (a = b))) := fun u _ => by
  (replace hx := ev_of hx; replace hy := ev_of hy)
  simp [execOp, DetUpon, hx, hy, eqGuard, binOp, Op.intCmp]; rfl
theorem det_ne {T T' : TypeId} {x y : Operand} {k : IntKind} {a b : Int} (hx : evo l x = some (.int k a)) (hy : evo l y = some (.int k b)) :
    Det P C ⟨d, .binOp .neq T x y T', ty, ps, af, g⟩ l (.bool (decide (a ≠ b))) := fun u _ => by
  (replace hx := ev_of hx; replace hy := ev_of hy)
  simp [execOp, DetUpon, hx, hy, eqGuard, binOp, Op.intCmp]; rfl
theorem det_lt {T T' : TypeId} {x y : Operand} {k : IntKind} {a b : Int} (hx : evo l x = some (.int k a)) (hy : evo l y = some (.int k b)) :
    Det P C ⟨d, .binOp .lss T x y T', ty, ps, af, g⟩ l (.bool (decide (a < b))) := fun u _ => by
  (replace hx := ev_of hx; replace hy := ev_of hy)
  simp [execOp, DetUpon, hx, hy, eqGuard, binOp, Op.intCmp]
theorem det_le {T T' : TypeId} {x y : Operand} {k : IntKind} {a b : Int} (hx : evo l x = some (.int k a)) (hy : evo l y = some (.int k b)) :
    Det P C ⟨d, .binOp .leq T x y T', ty, ps, af, g⟩ l (.bool (decide (a ≤ b))) := fun u _ => by
  (replace hx := ev_of hx; replace hy := ev_of hy)
  simp [execOp, DetUpon, hx, hy, eqGuard, binOp, Op.intCmp]
theorem det_gt {T T' : TypeId} {x y : Operand} {k : IntKind} {a b : Int} (hx : evo l x = some (.int k a)) (hy : evo l y = some (.int k b)) :
    Det P C ⟨d, .binOp .gtr T x y T', ty, ps, af, g⟩ l (.bool (decide (b < a))) := fun u _ => by
  (replace hx := ev_of hx; replace hy := ev_of hy)
  simp [execOp, DetUpon, hx, hy, eqGuard, binOp, Op.intCmp]
theorem det_ge {T T' : TypeId} {x y : Operand} {k : IntKind} {a b : Int} (hx : evo l x = some (.int k a)) (hy : evo l y = some (.int k b)) :
    Det P C ⟨d, .binOp .geq T x y T', ty, ps, af, g⟩ l (.bool (decide (b ≤ a))) := fun u _ => by
  (replace hx := ev_of hx; replace hy := ev_of hy)
  simp [execOp, DetUpon, hx, hy, eqGuard, binOp, Op.intCmp]
theorem det_eqb {T T' : TypeId} {x y : Operand} {a b : Bool} (hx : evo l x = some (.bool a)) (hy : evo l y = some (.bool b)) (hT : P.underlying T = some .bool) :
    Det P C ⟨d, .binOp .eql T x y T', ty, ps, af, g⟩ l (.bool (a == b)) := fun u _ => by
  (replace hx := ev_of hx; replace hy := ev_of hy)
  simp [execOp, DetUpon, hx, hy, eqGuard, run_eql_bool _ T a b hT]
theorem det_neb {T T' : TypeId} {x y : Operand} {a b : Bool} (hx : evo l x = some (.bool a)) (hy : evo l y = some (.bool b)) (hT : P.underlying T = some .bool) :
    Det P C ⟨d, .binOp .neq T x y T', ty, ps, af, g⟩ l (.bool (a != b)) := fun u _ => by
  (replace hx := ev_of hx; replace hy := ev_of hy)
  simp [execOp, DetUpon, hx, hy, eqGuard, run_neq_bool _ T a b hT]
  cases a <;> cases b <;> rfl
theorem det_not {T : TypeId} {x : Operand} {a : Bool} (hx : evo l x = some (.bool a)) : Det P C ⟨d, .unOp .not T x, ty, ps, af, g⟩ l (.bool (!a)) := fun u _ => by
  (replace hx := ev_of hx)
  simp [execOp, DetUpon, hx, Op.unary]
theorem det_neg {T : TypeId} {x : Operand} {a : Int} (hx : evo l x = some (.int .i64 a)) (h : -9223372036854775807 ≤ a ∧ a ≤ 9223372036854775807) : Det P C ⟨d, .unOp .neg T x, ty, ps, af, g⟩ l (.int .i64 (-a)) := fun u _ => by
  (replace hx := ev_of hx)
  simp [execOp, DetUpon, hx, Op.unary, Op.intArith, IntWalk.i64_in (-a) ⟨by omega, by omega⟩]
theorem det_extract {x : Operand} {i : Nat} {vs : List Value} {v : Value} (hx : evo l x = some (.tuple vs.toArray)) (hv : vs[i]? = some v) : Det P C ⟨d, .extract x i, ty, ps, af, g⟩ l v := fun u _ => by
  (replace hx := ev_of hx)
  simp [execOp, DetUpon, hx, Instr.extract, hv]
theorem det_makeFunc {fn : Fn} {cap : List Operand} {vs : List Value} (hv : evs l cap = some vs) : Det P C ⟨d, .makeFunc fn #[] cap.toArray, ty, ps, af, g⟩ l (.func fn #[] vs.toArray) := fun u _ => by
  (replace hv := evs_of hv)
  subst hv
  simp [execOp, DetUpon, Instr.makeFunc]
theorem det_len {T : TypeId} {x : Operand} {p : Option Addr} {n c : Nat} {e : TypeId} (hT : P.underlying T = some (.slice e)) (hx : evo l x = some (.slice p n c)) :
    Det P C ⟨d, .call ⟨.builtin .len, #[x], #[T]⟩, ty, ps, af, g⟩ l (.int .i64 n) := fun u _ => by
  (replace hx := ev_of hx)
  simp [execOp, DetUpon, hx, resolve, invoke, builtin, Builtin.len_, run_underlying hT, goInt]
theorem det_convert_int {T T' : TypeId} {x : Operand} {a : Int} {k : IntKind} (hT : P.underlying T = some (.int .i64)) (hT' : P.underlying T' = some (.int .i64)) (hx : evo l x = some (.int k a))
    (h : -9223372036854775808 ≤ a ∧ a ≤ 9223372036854775807) : Det P C ⟨d, .convert T T' x, ty, ps, af, g⟩ l (.int .i64 a) := fun u _ => by
  (replace hx := ev_of hx)
  simp [execOp, DetUpon, hx, convert, run_underlying hT, run_underlying hT', Conv.intToInt, IntWalk.i64_in a h]
theorem det_min {x y : Operand} {Ts : Array TypeId} {a b : Int} (hx : evo l x = some (.int .i64 a)) (hy : evo l y = some (.int .i64 b)) :
    Det P C ⟨d, .call ⟨.builtin .min, #[x, y], Ts⟩, ty, ps, af, g⟩ l (.int .i64 (min a b)) := fun u _ => by
  (replace hx := ev_of hx; replace hy := ev_of hy)
  have : (if b < a then b else a) = min a b := by split <;> omega
  simp [execOp, DetUpon, hx, hy, resolve, invoke, builtin, Builtin.min_, Builtin.min2, this]
theorem det_max {x y : Operand} {Ts : Array TypeId} {a b : Int} (hx : evo l x = some (.int .i64 a)) (hy : evo l y = some (.int .i64 b)) :
    Det P C ⟨d, .call ⟨.builtin .max, #[x, y], Ts⟩, ty, ps, af, g⟩ l (.int .i64 (max a b)) := fun u _ => by
  (replace hx := ev_of hx; replace hy := ev_of hy)
  have : (if a < b then b else a) = max a b := by split <;> omega
  simp [execOp, DetUpon, hx, hy, resolve, invoke, builtin, Builtin.max_, Builtin.max2, this]
theorem det_nilCheck {x : Operand} {a : Addr} (hx : evo l x = some (.pointer (some a))) : Det P C ⟨d, .nilCheck x, ty, ps, af, g⟩ l (.pointer (some a)) := fun u _ => by
  (replace hx := ev_of hx)
  simp [execOp, DetUpon, hx]

/-! ### Calls -/
theorem det_call {f : Operand} {args : List Operand} {ts : Array TypeId} {fn : FuncId} {cap : List Value} {vs : List Value} {v : Value}
    (hc : ∀ u, C u → Calls P fn (vs ++ cap).toArray u (RetB u v))
    (hf : evo l f = some (.func (.func fn) #[] cap.toArray)) (he : Ent P fn) (hv : evs l args = some vs) :
    Det P C ⟨d, .call ⟨.value f, args.toArray, ts⟩, ty, ps, af, g⟩ l v := fun u hu => by
  (replace hf := ev_of hf; replace hv := evs_of hv)
  subst hv
  have h1 : ∀ (args : Array Value) (w : World), Sem.run P (callFunc fn args) w = .ok (.enter fn args) w := he
  simp [execOp, DetUpon, hf, resolve, invoke, Deferred.ofValue, h1]
  have := hc u hu
  simpa using this
end

end Go.Proofs.Ytldagbcceefcdaa

/- part Mem -/
/- The operations on memory: variables of the call's own, slices that are read, slices that grow. No program in sight. -/
namespace Go.Proofs.Ytldagbcceefcdaa
set_option linter.unusedVariables false
set_option linter.unusedSimpArgs false
open Go.RowKit

/-- Is the type an aggregate, and of how many cells. -/
def tk (P : Program) (T : TypeId) : Option (Bool × Nat) :=
  match P.underlying T, P.info? T with
  | some (.struct _), some i => some (true, i.size)
  | some (.array _ _), some i => some (true, i.size)
  | some _, some i => some (false, i.size)
  | _, _ => none
/-- The zero value's cells. -/
def zv (P : Program) (T : TypeId) : Option (List Value) := (P.info? T).bind fun i => i.zero.map fun z => z.cells.toList
/-- Where a field lies. -/
def fo (P : Program) (T : TypeId) (f : Nat) : Option Nat :=
  match P.underlying T with
  | some (.struct fs) => (fs[f]?).bind fun x => (P.info? x.type).bind fun i => if i.size = 0 then none else some x.offset
  | _ => none
/-- The element's type, its cells and bytes. -/
def sl (P : Program) (T : TypeId) : Option (TypeId × Nat × Nat) :=
  match P.underlying T with
  | some (.slice e) => (P.info? e).map fun i => (e, i.size, i.bytes)
  | _ => none
/-- An array's length and its element's cells. -/
def arr (P : Program) (T : TypeId) : Option (Nat × Nat) :=
  match P.underlying T with
  | some (.array n e) => (P.info? e).map fun i => (n, i.size)
  | _ => none

section
variable {P : Program} {T : TypeId}
theorem tk_spec {b : Bool} {k : Nat} (h : tk P T = some (b, k)) (w : World) : (isAgg T).run P w = .ok b w ∧ (sizeOf T).run P w = .ok k w := by
  unfold tk at h
  cases hu : P.underlying T with
  | none => rw [hu] at h; simp at h
  | some d =>
    cases hi : P.info? T with
    | none => rw [hu, hi] at h; cases d <;> simp at h
    | some i =>
      rw [hu, hi] at h
      refine ⟨?_, ?_⟩
      · cases d <;> simp at h <;> simp [isAgg, run_underlying hu, h.1]
      · cases d <;> simp at h <;> simp [sizeOf, typeInfo, hi, h.2]
theorem sl_spec {e : TypeId} {k by_ : Nat} (h : sl P T = some (e, k, by_)) : ∃ i, P.underlying T = some (.slice e) ∧ P.info? e = some i ∧ i.size = k ∧ i.bytes = by_ := by
  unfold sl at h
  split at h
  · rename_i e' hu
    cases hi : P.info? e' with
    | none => simp [hi] at h
    | some i =>
      simp [hi] at h
      obtain ⟨rfl, rfl, rfl⟩ := h
      exact ⟨i, hu, hi, rfl, rfl⟩
  · simp at h
theorem arr_spec {n k : Nat} (h : arr P T = some (n, k)) : ∃ e i, P.underlying T = some (.array n e) ∧ P.info? e = some i ∧ i.size = k := by
  unfold arr at h
  split at h
  · rename_i n' e' hu
    cases hi : P.info? e' with
    | none => simp [hi] at h
    | some i =>
      simp [hi] at h
      obtain ⟨rfl, rfl⟩ := h
      exact ⟨e', i, hu, hi, rfl⟩
  · simp at h
end

theorem addr_add (b o n : Nat) : (⟨b, o, none⟩ : Addr).add n = ⟨b, o + n, none⟩ := by
  unfold Addr.add; split <;> simp_all

section
variable {P : Program} {ro : Option Nat} {n0 : Nat} {w0 : World} {ds : List Deferred} {ops : Array Oper} {Q : Exit → Act → World → Prop} {L : List SA}
  {rest : List Oper} {l : List Value} {d : Option Tmp} {ty : TypeId} {ps : String} {af : Array Edge} {g : Option (Nat × Bool)} {C : World → Prop}

/-- An operation that turns the world. -/
theorem WS.world {o : Oper} (hc : calm o.op = true) (hg : o.guard = none)
    (h : ∀ u, St n0 w0 L u → ∃ v u', (execOp (ev l) o).run P u = .ok (.value v) u' ∧ wpListIn (FW ro) 0 P ops Q rest ((Act.mk l.toArray ds).put o.dst v) u') :
    WS P ro n0 w0 ds ops Q L (o :: rest) l := by
  intro u hu
  unfold wpListIn
  rw [if_pos (by simp [Region.wanted, hg])]
  refine ⟨fun _ _ => trivial, ?_⟩
  rw [semAt_calm hc, eval_ev]
  obtain ⟨v, u', hr, hk⟩ := h u hu
  rw [hr]
  exact hk
theorem WS.world_skip {o : Oper} (hc : calm o.op = true) (hg : o.guard = none) (hd : o.dst = none)
    (h : ∀ u, St n0 w0 L u → ∃ u', (execOp (ev l) o).run P u = .ok .skip u' ∧ wpListIn (FW ro) 0 P ops Q rest ⟨l.toArray, ds⟩ u') :
    WS P ro n0 w0 ds ops Q L (o :: rest) l := by
  intro u hu
  unfold wpListIn
  rw [if_pos (by simp [Region.wanted, hg])]
  refine ⟨fun _ _ => trivial, ?_⟩
  rw [semAt_calm hc, eval_ev]
  obtain ⟨u', hr, hk⟩ := h u hu
  rw [hr]
  show wpListIn (FW ro) 0 P ops Q rest ((Act.mk l.toArray ds).put o.dst undef) u'
  rw [hd]
  exact hk

/-! ### Variables -/
theorem WS.box {T : TypeId} {x : Operand} {i : Nat} {v : Value} {c : List Value} (hx : evo l x = some (v)) (hc : v.cells = c.toArray)
    {l' : Nat → List Value} (hl : ∀ b, lset l i (.pointer (some ⟨b, 0, none⟩)) = some (l' b))
    (k : ∀ b, n0 ≤ b → WS P ro n0 w0 ds ops Q (blk b c T :: L) rest (l' b)) :
    WS P ro n0 w0 ds ops Q L (⟨some i, .box T x, ty, ps, af, none⟩ :: rest) l := by
  (replace hx := ev_of hx)
  refine WS.world rfl rfl fun u hu => ?_
  refine ⟨.pointer (some ⟨u.heap.size, 0, none⟩), u.alloc (.cells c.toArray T), ?_, ?_⟩
  · simp [execOp, Instr.box, newVar, newRow, hx, hc]
  · rw [put_some]
    rw [lset_of (hl _)]
    exact k _ hu.size _ (hu.alloc c T)
theorem WS.alloc {T : TypeId} {i : Nat} {c : List Value} (hz : zv P T = some c)
    {l' : Nat → List Value} (hl : ∀ b, lset l i (.pointer (some ⟨b, 0, none⟩)) = some (l' b))
    (k : ∀ b, n0 ≤ b → WS P ro n0 w0 ds ops Q (blk b c T :: L) rest (l' b)) :
    WS P ro n0 w0 ds ops Q L (⟨some i, .alloc T, ty, ps, af, none⟩ :: rest) l := by
  refine WS.world rfl rfl fun u hu => ?_
  refine ⟨.pointer (some ⟨u.heap.size, 0, none⟩), u.alloc (.cells c.toArray T), ?_, ?_⟩
  · unfold zv at hz
    cases hi : P.info? T with
    | none => simp [hi] at hz
    | some inf =>
      cases hz2 : inf.zero with
      | none => simp [hi, hz2] at hz
      | some z =>
        simp [hi, hz2] at hz
        subst hz
        simp [execOp, Instr.alloc, zeroValue, typeInfo, hi, hz2, newVar, newRow]
  · rw [put_some]
    rw [lset_of (hl _)]
    exact k _ hu.size _ (hu.alloc c T)

theorem det_fieldAddr {T : TypeId} {x : Operand} {f b o m : Nat} (hx : evo l x = some (.pointer (some ⟨b, o, none⟩))) (hf : fo P T f = some m) :
    Det P C ⟨d, .fieldAddr T x f, ty, ps, af, g⟩ l (.pointer (some ⟨b, o + m, none⟩)) := fun u _ => by
  (replace hx := ev_of hx)
  unfold fo at hf
  split at hf
  · rename_i fs hu
    cases hfs : fs[f]? with
    | none => simp [hfs] at hf
    | some x =>
      cases hi : P.info? x.type with
      | none => simp [hfs, hi] at hf
      | some i =>
        simp [hfs, hi] at hf
        obtain ⟨h0, rfl⟩ := hf
        simp [execOp, DetUpon, hx, Instr.fieldAt, run_underlying hu, hfs, Instr.sureAddr, fieldPlace, sizeOf, typeInfo, hi, h0, addr_add]
  · simp at hf

theorem det_load {T : TypeId} {x : Operand} {a : Addr} {v : Value} {k : Nat} (hT : tk P T = some (false, k)) (hx : evo l x = some (.pointer (some a))) (hv : ∀ u, C u → u.cell? a = some v) :
    Det P C ⟨d, .load T x, ty, ps, af, g⟩ l v := fun u hu => by
  (replace hx := ev_of hx)
  simp [execOp, DetUpon, hx, Instr.loadAt, Instr.sureAddr, loadVar, (tk_spec hT u).1, hv u hu]
theorem det_loadN {T : TypeId} {x : Operand} {b o : Nat} {cs : List Value} (hT : tk P T = some (true, cs.length)) (hx : evo l x = some (.pointer (some ⟨b, o, none⟩)))
    (hv : ∀ u, C u → ∀ j v, cs[j]? = some v → u.cell? ⟨b, o + j, none⟩ = some v) :
    Det P C ⟨d, .load T x, ty, ps, af, g⟩ l (.agg cs.toArray) := fun u hu => by
  (replace hx := ev_of hx)
  have := run_loadCells_list (P := P) u ⟨b, o, none⟩ cs fun j v h => by rw [addr_add]; exact hv u hu j v h
  simp [execOp, DetUpon, hx, Instr.loadAt, Instr.sureAddr, loadVar, (tk_spec hT u).1, (tk_spec hT u).2, this]

theorem blk_cell {u : World} {b : Nat} {c : List Value} {e : TypeId} (h : u.heap[b]? = some (.cells c.toArray e (0, 0))) (i : Nat) : u.cell? ⟨b, i, none⟩ = c[i]? := by
  rw [cell_of_row u b i _ e (0, 0) h]; simp

/-- A load out of a variable of the call's own: the part's place, the cell. -/
theorem det_loadb {T : TypeId} {x : Operand} {b i : Nat} {c : List Value} {e : TypeId} {v : Value} {k j : Nat} (hx : evo l x = some (.pointer (some ⟨b, i, none⟩))) (hj : L[j]? = some (blk b c e)) (hv : c[i]? = some v) (hT : tk P T = some (false, k)) :
    Det P (St n0 w0 L) ⟨d, .load T x, ty, ps, af, g⟩ l v :=
  det_load hT hx fun u hu => by rw [blk_cell (hu.blk hj).2]; exact hv
theorem det_loadbN {T : TypeId} {x : Operand} {b i : Nat} {c cs : List Value} {e : TypeId} {j : Nat} (hx : evo l x = some (.pointer (some ⟨b, i, none⟩))) (hj : L[j]? = some (blk b c e)) (hv : (c.drop i).take cs.length = cs) (hT : tk P T = some (true, cs.length)) :
    Det P (St n0 w0 L) ⟨d, .load T x, ty, ps, af, g⟩ l (.agg cs.toArray) :=
  det_loadN hT hx fun u hu m v hm => by
    rw [blk_cell (hu.blk hj).2]
    rw [← hv, List.getElem?_take] at hm
    split at hm
    · rw [List.getElem?_drop] at hm; exact hm
    · simp at hm
/-- The whole variable. -/
theorem det_loadb0 {T : TypeId} {x : Operand} {b : Nat} {c : List Value} {e : TypeId} {j : Nat} (hx : evo l x = some (.pointer (some ⟨b, 0, none⟩))) (hj : L[j]? = some (blk b c e)) (hT : tk P T = some (true, c.length)) :
    Det P (St n0 w0 L) ⟨d, .load T x, ty, ps, af, g⟩ l (.agg c.toArray) :=
  det_loadbN hx hj (by simp) hT

theorem lset_eq {α : Type} : ∀ (l : List α) (n : Nat) (v : α), lset l n v = some (l.set n v)
  | [], _, _ => rfl
  | _ :: _, 0, _ => rfl
  | x :: l, n + 1, v => by simp [lset, lset_eq l n v]
theorem WS.store {T : TypeId} {x y : Operand} {b i j : Nat} {k : Bool} {c : List Value} {e : TypeId} {v : Value} (hx : evo l x = some (.pointer (some ⟨b, i, none⟩))) (hj : L[j]? = some (blk b c e)) (hi : i < c.length)
    (hy : evo l y = some (v)) (h1 : v.oneCell' = true) (hT : tk P T = some (k, 1))
    {c' : List Value} (hc' : lset c i v = some c') {L' : List SA} (hL : lset L j (blk b c' e) = some L') (kk : WS P ro n0 w0 ds ops Q L' rest l) :
    WS P ro n0 w0 ds ops Q L (⟨none, .store T x y, ty, ps, af, none⟩ :: rest) l := by
  (replace hx := ev_of hx; replace hy := ev_of hy)
  rw [← lset_of hc'] at hL
  rw [← lset_of hL] at kk
  refine WS.world_skip rfl rfl rfl fun u hu => ⟨u.setCell ⟨b, i, none⟩ v, ?_, kk _ (hu.store hj i v)⟩
  have hb := hu.blk hj
  have hcell : u.cell? ⟨b, i, none⟩ = some c[i] := by rw [blk_cell hb.2]; simp [hi]
  have hfr : u.frozen? ⟨b, i, none⟩ = false := frozen_of_row u b i c.toArray e hb.2
  have hcs : v.cells = #[v] := by cases v <;> simp_all [Value.cells, Value.oneCell']
  simp [execOp, hx, hy, Instr.storeAt, Instr.sureAddr, storeVar, (tk_spec hT u).2, hcs, storeCells, addr_add, run_store P u ⟨b, i, none⟩ v .plain h1, hcell, hfr]
end

end Go.Proofs.Ytldagbcceefcdaa

/- part Sli -/
/- Slices: read, made, grown. No program in sight. -/
namespace Go.Proofs.Ytldagbcceefcdaa
set_option linter.unusedVariables false
set_option linter.unusedSimpArgs false
open Go.RowKit

def slb : Value → Nat
  | .slice (some a) _ _ => a.block
  | _ => 0
def slo : Value → Nat
  | .slice (some a) _ _ => a.off
  | _ => 0
/-- A slice's cell. -/
def sla (v : Value) (m : Nat) : Addr := ⟨slb v, slo v + m, none⟩

/-- v is a slice of n elements of k cells each; its cells hold flat. -/
def SlC (u : World) (v : Value) (n k : Nat) (flat : List Value) : Prop :=
  flat.length = n * k ∧ ∃ p cap, v = .slice p n cap ∧ (n ≤ cap ∧ cap ≤ 9223372036854775807) ∧
    (n = 0 ∨ ∃ b o, p = some ⟨b, o, none⟩ ∧ ∀ m x, flat[m]? = some x → u.cell? ⟨b, o + m, none⟩ = some x)

theorem SlC.cell {u : World} {v : Value} {n k : Nat} {flat : List Value} (h : SlC u v n k flat) {m : Nat} {x : Value} (hm : flat[m]? = some x) : u.cell? (sla v m) = some x := by
  obtain ⟨hl, p, cap, rfl, _, rfl | ⟨b, o, rfl, hc⟩⟩ := h
  · have : flat = [] := List.eq_nil_of_length_eq_zero (by omega)
    subst this; simp at hm
  · exact hc m x hm

theorem SlC.keep {u u' : World} {v : Value} {n k : Nat} {flat : List Value} (h : SlC u v n k flat) (hk : ∀ a x, u.cell? a = some x → u'.cell? a = some x) : SlC u' v n k flat := by
  obtain ⟨hl, p, cap, rfl, hcap, h⟩ := h
  refine ⟨hl, p, cap, rfl, hcap, ?_⟩
  rcases h with h | ⟨b, o, rfl, hc⟩
  · exact .inl h
  · exact .inr ⟨b, o, rfl, fun m x hm => hk _ _ (hc m x hm)⟩

theorem cell_below {B : Nat} {w u : World} (h : Below B w u) (hB : w.heap.size ≤ B) {a : Addr} {x : Value} (hc : w.cell? a = some x) : u.cell? a = some x := by
  have := World.block_lt_of_cell? w a hc
  rw [h.cell (p := a) (by omega)]; exact hc

theorem SlC.ext {w u : World} {v : Value} {n k : Nat} {flat : List Value} (h : SlC w v n k flat) (hb : Below w.heap.size w u) : SlC u v n k flat :=
  h.keep fun _ _ hc => cell_below hb (Nat.le_refl _) hc

/-- What was readable where the walk began is readable. -/
theorem SlC.st {w0 u : World} {L : List SA} {v : Value} {n k : Nat} {flat : List Value} (h : SlC w0 v n k flat) (hu : St w0.heap.size w0 L u) : SlC u v n k flat := h.ext hu.below

theorem SlC.le {u : World} {v : Value} {n k : Nat} {flat : List Value} (h : SlC u v n k flat) : n ≤ 9223372036854775807 := by
  obtain ⟨_, p, cap, _, hc, _⟩ := h
  omega
theorem SlC.len {u : World} {v : Value} {n k : Nat} {flat : List Value} (h : SlC u v n k flat) : flat.length = n * k := h.1

/-- A slice of the call's own. -/
def osl (e : TypeId) (size : Nat) (v : Value) (n : Nat) (xs : List Value) : SA where
  h S u := (∀ k, S k ↔ v.ownBlock = some k) ∧ u.ownsRow 0 e size v n xs
  loc S u u' h hk := by
    obtain ⟨h0, h1, h2⟩ := h
    refine ⟨h0, h1, ?_⟩
    rcases h2 with h2 | ⟨b, cap, cur, rfl, hb, hg, r⟩
    · exact .inl h2
    · exact .inr ⟨b, cap, cur, rfl, hb, hk b ((h0 b).2 rfl) _ hg, r⟩
  dom S u k h hS := (h.2.lt k ((h.1 k).1 hS)).2

theorem ownsRow_SlC {u : World} {base : Nat} {e : TypeId} {size : Nat} {v : Value} {n : Nat} {xs : List Value} (h : u.ownsRow base e size v n xs) : SlC u v n size xs := by
  refine ⟨h.1, ?_⟩
  rcases h.2 with ⟨rfl, rfl⟩ | ⟨b, cap, cur, rfl, hb, hg, hn, hm, hs, ht⟩
  · exact ⟨none, 0, rfl, ⟨Nat.le_refl _, by omega⟩, .inl rfl⟩
  · refine ⟨_, cap, rfl, ⟨hn, hm⟩, .inr ⟨b, 0, rfl, fun m x hx => ?_⟩⟩
    rw [cell_of_row u b _ cur e (0, 0) hg, ← Array.getElem?_toList]
    rw [← ht, List.getElem?_take] at hx
    split at hx
    · rw [Nat.zero_add]; exact hx
    · simp at hx

section
variable {P : Program} {ro : Option Nat} {n0 : Nat} {w0 : World} {ds : List Deferred} {ops : Array Oper} {Q : Exit → Act → World → Prop} {L : List SA}
  {rest : List Oper} {l : List Value} {d : Option Tmp} {ty : TypeId} {ps : String} {af : Array Edge} {g : Option (Nat × Bool)} {C : World → Prop}

theorem osl_SlC {e : TypeId} {size : Nat} {v : Value} {n : Nat} {xs : List Value} {j : Nat} {u : World} (hu : St n0 w0 L u) (hj : L[j]? = some (osl e size v n xs)) : SlC u v n size xs := by
  obtain ⟨T, _, _, h⟩ := hu.get hj
  exact ownsRow_SlC h

theorem det_lenS {T e : TypeId} {a b : Nat} {x : Operand} {v : Value} {w : World} {n k : Nat} {flat : List Value} (hT : sl P T = some (e, a, b)) (hx : evo l x = some (v)) (hs : SlC w v n k flat) :
    Det P C ⟨d, .call ⟨.builtin .len, #[x], #[T]⟩, ty, ps, af, g⟩ l (.int .i64 n) := by
  obtain ⟨i, hu, _⟩ := sl_spec hT
  obtain ⟨_, p, cap, rfl, _⟩ := hs
  exact det_len hu hx
theorem det_lenO {T e e' : TypeId} {a b size j : Nat} {x : Operand} {v : Value} {n : Nat} {xs : List Value} (hT : sl P T = some (e, a, b)) (hx : evo l x = some v) (hj : L[j]? = some (osl e' size v n xs)) :
    Det P (St n0 w0 L) ⟨d, .call ⟨.builtin .len, #[x], #[T]⟩, ty, ps, af, g⟩ l (.int .i64 n) := fun u hu => by
  exact det_lenS (C := St n0 w0 L) hT hx (osl_SlC hu hj) u hu
theorem det_lenV {T e : TypeId} {a b : Nat} {x : Operand} {v : Value} {n : Nat} (hT : sl P T = some (e, a, b)) (hx : evo l x = some (v)) (hs : ∃ p c, v = .slice p n c) :
    Det P C ⟨d, .call ⟨.builtin .len, #[x], #[T]⟩, ty, ps, af, g⟩ l (.int .i64 n) := by
  obtain ⟨i, hu, _⟩ := sl_spec hT
  obtain ⟨p, cap, rfl⟩ := hs
  exact det_len hu hx

theorem det_indexS {T e : TypeId} {k by_ : Nat} {x y : Operand} {v : Value} {i : Int} {w : World} {n k' : Nat} {flat : List Value} (hT : sl P T = some (e, k, by_)) (hx : evo l x = some (v)) (hy : evo l y = some (.int .i64 i))
    (hs : SlC w v n k' flat) (h0 : 0 ≤ i) (h1 : i < n) : Det P C ⟨d, .indexAddr T x y, ty, ps, af, g⟩ l (.pointer (some (sla v (i.toNat * k)))) := fun u _ => by
  (replace hx := ev_of hx; replace hy := ev_of hy)
  obtain ⟨inf, hu, hi, hk, _⟩ := sl_spec hT
  obtain ⟨_, p, cap, rfl, _, rfl | ⟨b, o, rfl, _⟩⟩ := hs
  · omega
  · simp [execOp, DetUpon, hx, hy, Instr.indexAt, asIntOf, run_underlying hu, h0, h1, sizeOf, typeInfo, hi, hk, sla, slb, slo, addr_add]
theorem det_indexA {T : TypeId} {k n b o : Nat} {x y : Operand} {i : Int} (hT : arr P T = some (n, k)) (hx : evo l x = some (.pointer (some ⟨b, o, none⟩))) (hy : evo l y = some (.int .i64 i))
    (h0 : 0 ≤ i) (h1 : i < n) : Det P C ⟨d, .indexAddr T x y, ty, ps, af, g⟩ l (.pointer (some ⟨b, o + i.toNat * k, none⟩)) := fun u _ => by
  (replace hx := ev_of hx; replace hy := ev_of hy)
  obtain ⟨e, inf, hu, hi, hk⟩ := arr_spec hT
  simp [execOp, DetUpon, hx, hy, Instr.indexAt, asIntOf, run_underlying hu, h0, h1, sizeOf, typeInfo, hi, hk, addr_add, Instr.sureAddr]

theorem det_fieldAddrS {T : TypeId} {x : Operand} {f o m : Nat} {v : Value} (hx : evo l x = some (.pointer (some (sla v o)))) (hf : fo P T f = some m) :
    Det P C ⟨d, .fieldAddr T x f, ty, ps, af, g⟩ l (.pointer (some (sla v (o + m)))) := by
  have := det_fieldAddr (P := P) (C := C) (d := d) (ty := ty) (ps := ps) (af := af) (g := g) (b := slb v) (o := slo v + o) hx hf
  unfold sla
  rw [← Nat.add_assoc]
  exact this

/-- An element of one cell. -/
theorem det_loadS {T : TypeId} {x : Operand} {v y : Value} {m n k z : Nat} {flat : List Value} (hx : evo l x = some (.pointer (some (sla v m)))) (hs : ∀ u, C u → SlC u v n k flat) (hm : flat[m]? = some y) (hT : tk P T = some (false, z)) :
    Det P C ⟨d, .load T x, ty, ps, af, g⟩ l y := det_load hT hx fun u hu => (hs u hu).cell hm
/-- An element that is an aggregate. -/
theorem det_loadSN {T : TypeId} {x : Operand} {v : Value} {m n k : Nat} {flat cs : List Value} (hx : evo l x = some (.pointer (some (sla v m)))) (hs : ∀ u, C u → SlC u v n k flat) (hm : ∀ j y, cs[j]? = some y → flat[m + j]? = some y)
    (hT : tk P T = some (true, cs.length)) : Det P C ⟨d, .load T x, ty, ps, af, g⟩ l (.agg cs.toArray) := by
  refine det_loadN hT hx fun u hu j y hy => ?_
  have := (hs u hu).cell (hm j y hy)
  unfold sla at this
  rw [← Nat.add_assoc] at this
  exact this

/-! ### Slices that the call makes -/
theorem cellsD (n s : Nat) (c : List Value) (hc : c.length = s) : (Array.range (n * s)).map (c.toArray[· % c.toArray.size]!) = ((List.replicate n c).flatten).toArray := by
  apply Array.ext'
  simp only [Array.toList_map, Array.toList_range, List.size_toArray, hc]
  induction n with
  | zero => simp
  | succ n ih =>
    rw [Nat.succ_mul, List.range_add, List.map_append, ih, List.replicate_succ', List.flatten_append]
    congr 1
    simp only [List.map_map, List.flatten_cons, List.flatten_nil, List.append_nil]
    apply List.ext_getElem?
    intro i
    simp only [List.getElem?_map]
    by_cases hi : i < s
    · rw [List.getElem?_range hi]
      have h1 : (n * s + i) % s = i := by rw [Nat.add_comm, Nat.add_mul_mod_self_right, Nat.mod_eq_of_lt hi]
      simp only [Option.map_some, Function.comp_apply, h1]
      simp [hc, hi]
    · rw [List.getElem?_eq_none (by simpa using Nat.le_of_not_lt hi), List.getElem?_eq_none (by omega)]
      rfl

/-- The cells of a slice that is built of parts of one cell each, all of them given. -/
theorem fill_one : ∀ (vs : List Value) (i : Nat) (pre : List Value), i = pre.length → (∀ v ∈ vs, v.oneCell' = true) →
    ∀ z : List Value, z.length = vs.length → Instr.fill (fun i => some (i * 1, 1)) (pre ++ z).toArray ((vs.zipIdx i).map fun (v, j) => (j, v)) = some (pre ++ vs).toArray
  | [], _, _, _, _, z, hz => by
    have : z = [] := List.eq_nil_of_length_eq_zero (by simpa using hz)
    subst this; simp [Instr.fill]
  | v :: vs, i, pre, hi, h1, z, hz => by
    cases z with
    | nil => simp at hz
    | cons y z =>
      have hv : v.cells = #[v] := by have := h1 v (by simp); cases v <;> simp_all [Value.cells, Value.oneCell']
      simp only [List.zipIdx_cons, List.map_cons, Instr.fill, hv]
      rw [if_neg (by simp; omega)]
      have := fill_one vs (i + 1) (pre ++ [v]) (by simp [hi]) (fun x hx => h1 x (by simp [hx])) z (by simpa using hz)
      simp at this
      subst hi
      simpa using this

theorem WS.makeSlice {T e z : TypeId} {size by_ : Nat} {x y : Operand} {i : Nat} {n c : Int} {zc : List Value} (hT : sl P T = some (e, size, by_)) (hx : evo l x = some (.int .i64 n)) (hy : evo l y = some (.int .i64 c)) (hz : zv P e = some zc) (hzl : zc.length = size)
    (h0 : 0 ≤ n) (hnc : n = c) (hb : (by_ : Int) * n ≤ 281474976710656) (hm : n ≤ 9223372036854775807)
    {l' : Value → List Value} (hl : ∀ v, lset l i v = some (l' v)) (k : ∀ v, WS P ro n0 w0 ds ops Q (osl e size v n.toNat (List.replicate n.toNat zc).flatten :: L) rest (l' v)) :
    WS P ro n0 w0 ds ops Q L (⟨some i, .makeSlice T x y, ty, ps, af, none⟩ :: rest) l := by
  (replace hx := ev_of hx; replace hy := ev_of hy)
  subst hnc
  refine WS.world rfl rfl fun u hu => ?_
  obtain ⟨inf, hu1, hi, hs, hby⟩ := sl_spec hT
  unfold zv at hz
  rw [hi] at hz
  cases hz2 : inf.zero with
  | none => simp [hz2] at hz
  | some zz =>
    simp [hz2] at hz
    have hr := run_make (P := P) u T e inf zz hu1 hi hz2 .i64 .i64 n n h0 (Int.le_refl _) (by rw [hby]; exact hb) hm
    refine ⟨_, _, by simp [execOp, hx, hy, hr]; exact ⟨rfl, rfl⟩, ?_⟩
    rw [put_some, lset_of (hl _)]
    have hcells : madeCells zz.cells (n.toNat * inf.size) = ((List.replicate n.toNat zc).flatten).toArray := by
      unfold madeCells
      rw [hs]
      have h2 := cellsD n.toNat size zc hzl
      rw [← hz] at h2 ⊢
      simpa using h2
    have hlen : ((List.replicate n.toNat zc).flatten).length = n.toNat * size := by simp [List.length_flatten, hzl]
    refine k (.slice (some ⟨u.heap.size, 0, none⟩) n.toNat n.toNat) _ (hu.cons (T := fun k => k = u.heap.size) ((Below.refl _ u).alloc (Nat.le_refl _) _) ⟨?_, hlen, .inr ⟨u.heap.size, n.toNat, _, rfl, Nat.zero_le _, World.alloc_heap_new u _, Nat.le_refl _, ?_, ?_, ?_⟩⟩ (fun k hk => by omega))
    · intro k; simp [Value.ownBlock]; exact eq_comm
    · simp only [maxLen]; omega
    · rw [hcells]; simp [List.length_flatten, hzl]
    · rw [hcells]; simp only [List.toList_toArray]; exact List.take_of_length_le (by rw [hlen]; exact Nat.le_refl _)

/-- '[]T{a, b, ..}', and the slice that '...' makes: elements of one cell each. -/
theorem WS.buildSlice1 {T e : TypeId} {by_ i n : Nat} {pl : List (Nat × Operand)} {vs zc : List Value} (hT : sl P T = some (e, 1, by_)) (hz : zv P e = some zc)
    (hp : (pl.map fun (j, x) => (j, ev l x)) = (vs.zipIdx).map fun (v, j) => (j, v)) (hn : vs.length = n) (hn2 : n ≤ 16777216) (h1 : ∀ v ∈ vs, v.oneCell' = true)
    {l' : Value → List Value} (hl : ∀ v, lset l i v = some (l' v)) (k : ∀ v, WS P ro n0 w0 ds ops Q (osl e 1 v n vs :: L) rest (l' v)) :
    WS P ro n0 w0 ds ops Q L (⟨some i, .buildSlice T n pl.toArray, ty, ps, af, none⟩ :: rest) l := by
  subst hn
  refine WS.world rfl rfl fun u hu => ?_
  obtain ⟨inf, hu1, hi, hs, hby⟩ := sl_spec hT
  unfold zv at hz
  rw [hi] at hz
  cases hz2 : inf.zero with
  | none => simp [hz2] at hz
  | some zz =>
    simp [hz2] at hz
    refine ⟨.slice (some ⟨u.heap.size, 0, none⟩) vs.length vs.length, u.alloc (.cells vs.toArray e), ?_, ?_⟩
    · have hf : ∀ A : Array Value, A.size = vs.length → Instr.fill (fun i => some (i, 1)) A (List.map (fun x => (x.fst, ev l x.snd)) pl) = some vs.toArray := fun A hA => by
        have := fill_one vs 0 [] rfl h1 A.toList (by simpa using hA)
        rw [← hp] at this
        simpa using this
      have hlim : ¬ (16777216 < vs.length) := by omega
      by_cases h0 : vs.length = 0
      · have h2 := hf (Array.map (fun _ => (default : Value)) (Array.range 0)) (by simp [h0])
        simp [execOp, Instr.buildSlice, run_underlying hu1, sizeOf, typeInfo, hi, hs, h0, newRow, h2]
      · have h2 := hf ((Array.range vs.length).map (zz.cells[· % zz.cells.size]!)) (by simp)
        simp [execOp, Instr.buildSlice, run_underlying hu1, sizeOf, typeInfo, hi, hs, h0, newRow, hlim, zeroValue, hz2, h2]
    · rw [put_some, lset_of (hl _)]
      refine k _ _ (hu.cons (T := fun k => k = u.heap.size) ((Below.refl _ u).alloc (Nat.le_refl _) _) ⟨?_, by simp, .inr ⟨u.heap.size, vs.length, _, rfl, Nat.zero_le _, World.alloc_heap_new u _, Nat.le_refl _, ?_, ?_, ?_⟩⟩ (fun k hk => by omega))
      · intro k; simp [Value.ownBlock]; exact eq_comm
      · simp only [maxLen]; omega
      · simp
      · simp

/-- append onto a slice of the call's own. -/
theorem WS.append {T e : TypeId} {size by_ i j n m : Nat} {x y : Operand} {v z : Value} {xs news zc : List Value} (hT : sl P T = some (e, size, by_)) (hz : zv P e = some zc) (hzl : zc.length = size) (hs0 : 0 < size)
    (hx : evo l x = some (v)) (hj : L[j]? = some (osl e size v n xs)) (hy : evo l y = some (z)) (hnews : ∀ u, St n0 w0 L u → SlC u z m size news) (h1 : ∀ a ∈ news, a.oneCell' = true)
    (hm : n + m ≤ 9223372036854775807) (hb : (n + m) * by_ ≤ 140737488355328)
    {l' : Value → List Value} (hl : ∀ v, lset l i v = some (l' v)) {L' : Value → List SA} (hL : ∀ v', lset L j (osl e size v' (n + m) (xs ++ news)) = some (L' v')) (k : ∀ v', WS P ro n0 w0 ds ops Q (L' v') rest (l' v')) :
    WS P ro n0 w0 ds ops Q L (⟨some i, .call ⟨.builtin .append, #[x, y], #[T, T]⟩, ty, ps, af, none⟩ :: rest) l := by
  (replace hx := ev_of hx; replace hy := ev_of hy)
  refine WS.world rfl rfl fun u hu => ?_
  obtain ⟨inf, hu1, hi, hs, hby⟩ := sl_spec hT
  unfold zv at hz
  rw [hi] at hz
  cases hz2 : inf.zero with
  | none => simp [hz2] at hz
  | some zz =>
    simp [hz2] at hz
    obtain ⟨S, hS, ⟨hS1, hown⟩, hupd⟩ := hu.upd hj
    have hml : n + m ≤ maxLen := hm
    obtain ⟨hnl, p, cap, rfl, hcap, hz3⟩ := hnews u hu
    have fin : ∀ v' u', (Builtin.append_ #[T, T] ty #[v, .slice p m cap]).run P u = .ok v' u' → u'.ownsRow 0 e size v' (n + m) (xs ++ news) → u.grownBy u' v.ownBlock → (∀ b, v'.ownBlock = some b → n0 ≤ b ∧ (v.ownBlock = some b ∨ u.heap.size ≤ b)) →
        ∃ v u', (execOp (ev l) ⟨some i, .call ⟨.builtin .append, #[x, y], #[T, T]⟩, ty, ps, af, none⟩).run P u = .ok (.value v) u' ∧ wpListIn (FW ro) 0 P ops Q rest ((Act.mk l.toArray ds).put (some i) v) u' := by
      intro v' u' hr h2 h3 h4
      refine ⟨v', u', by simp [execOp, resolve, invoke, builtin, hx, hy, hr], ?_⟩
      rw [put_some, lset_of (hl _)]
      refine k v' u' (lset_of (hL v') ▸ hupd u' _ (fun b => v'.ownBlock = some b) ?_ ?_ ⟨fun b => Iff.rfl, h2⟩ ?_)
      · exact ⟨h3.os, h3.tape, h3.output, h3.size, fun b hb => h3.block b (by have := hu.size; omega) fun e => by have := hS b ((hS1 b).2 e.symm); omega⟩
      · intro b hb o hc
        exact (h3.block b hb.2.1 fun e => hb.2.2 ((hS1 b).2 e.symm)).trans hc
      · intro b hb
        obtain ⟨ha, hb⟩ := h4 b hb
        exact ⟨ha, hb.imp (fun h => (hS1 b).2 h) id⟩
    have hle := hu.size
    replace hz3 : (p = none ∧ m = 0) ∨ ∃ a, p = some a ∧ ∀ j' x, news[j']? = some x → u.cell? (a.add j') = some x := by
      rcases hz3 with rfl | ⟨b, o, rfl, hc⟩
      · have hn0 : news = [] := List.eq_nil_of_length_eq_zero (by omega)
        subst hn0
        cases p with
        | none => exact .inl ⟨rfl, rfl⟩
        | some a => exact .inr ⟨a, rfl, by simp⟩
      · exact .inr ⟨_, rfl, fun j' x hx => by rw [addr_add]; exact hc j' x hx⟩
    rcases hz3 with ⟨rfl, rfl⟩ | ⟨a, rfl, hc⟩
    · -- nothing to append
      have hn0 : news = [] := List.eq_nil_of_length_eq_zero (by omega)
      subst hn0
      refine fin v u ?_ (by simpa using hown) ⟨rfl, rfl, rfl, Nat.le_refl _, fun _ _ _ => rfl⟩ (fun b hb => ⟨hS b ((hS1 b).2 hb), .inl hb⟩)
      rcases hown.2 with ⟨rfl, rfl⟩ | ⟨b, cap', cur, rfl, hb0, hg, hn, _⟩
      · simp [Builtin.append_, run_underlying hu1, sizeOf, typeInfo, hi, Builtin.lenOf, Builtin.firstCells]
      · simp [Builtin.append_, run_underlying hu1, sizeOf, typeInfo, hi, Builtin.lenOf, Builtin.firstCells, hn, storeCells]
    · obtain ⟨v', u', hr, h2, h3, h4⟩ := run_append_own (P := P) u 0 T ty e inf zz size by_ hu1 hi hz2 hs hby (by rw [← hzl, ← hz]; simp) hs0 v n xs hown a m cap news hnl hc h1 hml hb (Nat.zero_le _)
      refine fin v' u' hr h2 h3 fun b' hb' => ?_
      -- the row that is handed back is the old one, or new
      by_cases hlt : b' < u.heap.size
      · by_cases hv : v.ownBlock = some b'
        · exact ⟨hS b' ((hS1 b').2 hv), .inl hv⟩
        · exfalso
          rcases hown.2 with ⟨rfl, rfl⟩ | ⟨g, cap', cur, rfl, _, hg, hnc, hcm, hcs, htake⟩
          · have hx0 : xs = [] := List.eq_nil_of_length_eq_zero (by simpa using hown.1)
            subst hx0
            obtain ⟨v2, u2, hr2, h22, h23, _⟩ := run_append_own (P := P) u u.heap.size T ty e inf zz size by_ hu1 hi hz2 hs hby (by rw [← hzl, ← hz]; simp) hs0 _ 0 [] (World.ownsRow_nil u u.heap.size e size) a m cap news hnl hc h1 hml hb (Nat.le_refl _)
            rw [hr] at hr2
            injection hr2 with e1 e2
            subst e1
            have := (h22.lt b' hb').1
            omega
          · have hnews' := hc
            by_cases hroom : n + m ≤ cap'
            · have hr2 := run_append_room (P := P) u T ty e inf hu1 hi g n cap' cur hg a m cap news (by rw [hs]; exact hnl) hnews' h1 hroom (by rw [hnl, hcs, hs, ← Nat.add_mul]; exact Nat.mul_le_mul_right _ hroom)
              rw [hr] at hr2
              injection hr2 with e1 e2
              subst e1
              exact hv hb'
            · have holds : ∀ j u', xs[j]? = some u' → u.cell? ((⟨g, 0, none⟩ : Addr).add j) = some u' := hown.cells (g := g) rfl
              have hr2 := run_append_grow (P := P) u T ty e inf zz hu1 hi hz2 ⟨g, 0, none⟩ n cap' xs (by rw [hs]; exact hown.1) holds a m cap news (by rw [hs]; exact hnl) hnews' (by omega) (by omega) (growslice_fits (by omega) (by rw [hby]; exact hb))
              rw [hr] at hr2
              injection hr2 with e1 e2
              subst e1
              simp [Value.ownBlock] at hb'
              omega
      · exact ⟨by omega, .inr (by omega)⟩

end

end Go.Proofs.Ytldagbcceefcdaa

/- part Fun -/
/- A function's entry and its ways out; calls that hand back new memory; regions that draw their order. No program in sight. -/
namespace Go.Proofs.Ytldagbcceefcdaa
set_option linter.unusedVariables false
set_option linter.unusedSimpArgs false
open Go.RowKit

/-- The frame at a function's entry. -/
def frame : List Value → Nat → Option (List Value)
  | _, 0 => some []
  | [], n + 1 => match frame [] n with
    | some r => some (undef :: r)
    | none => none
  | v :: vs, n + 1 => match frame vs n with
    | some r => some (v :: r)
    | none => none
theorem frame_nil : ∀ (n : Nat), frame [] n = some (List.replicate n undef)
  | 0 => rfl
  | n + 1 => by simp [frame, frame_nil n, List.replicate_succ]
theorem frame_of : ∀ {vs : List Value} {n : Nat} {l : List Value}, frame vs n = some l → vs.length ≤ n → vs ++ List.replicate (n - vs.length) undef = l
  | [], n, l, h, _ => by rw [frame_nil] at h; simp at h; simp [h]
  | v :: vs, 0, l, h, hn => by simp at hn
  | v :: vs, n + 1, l, h, hn => by
    unfold frame at h
    split at h
    · rename_i r hr
      simp at h
      subst h
      have := frame_of hr (by simpa using hn)
      simp [← this]
    · simp at h

/-- The contract's word: a value, and a part of memory that is new. -/
def RetF (w : World) (v : Value) (A : SA) : Ending → World → Prop := fun e w' => e = .returned v ∧ Below w.heap.size w w' ∧ ∃ T, A.h T w' ∧ ∀ k, T k → w.heap.size ≤ k

section
variable {P : Program} {ro : Option Nat} {n0 : Nat} {w0 : World} {ds : List Deferred} {ops : Array Oper} {Q : Exit → Act → World → Prop} {L : List SA}
  {rest : List Oper} {l : List Value} {d : Option Tmp} {ty : TypeId} {ps : String} {af : Array Edge} {g : Option (Nat × Bool)} {C : World → Prop}

theorem enter {f : FuncId} {fn : Func} {c : Code} {args : List Value} {w : World} {R : Ending → World → Prop} (hf : P.funcs[f]? = some fn) (hb : fn.body = some c)
    (hl : frame args fn.ntmps = some l) (hn : args.length ≤ fn.ntmps) (h : CS P none w.heap.size w [] c (bodyPost P fn R) [] l) : Calls P f args.toArray w R := by
  refine (callsIn_wide (n := 0)).1 (callsIn_of_wp hf hb trivial ?_)
  have := h w St.nil
  rw [← frame_of hl hn] at this
  have e : (args ++ List.replicate (fn.ntmps - args.length) undef).toArray = args.toArray ++ Array.replicate (fn.ntmps - args.toArray.size) undef := by
    apply Array.ext'; simp
  rw [e] at this
  exact this

theorem out0 {fn : Func} {R : Ending → World → Prop} {e : Exit} (he : e = .ret ∨ e = .normal) (hr : fn.results = #[]) (hR : ∀ u, St n0 w0 L u → R (.returned (.tuple #[])) u) : QS n0 w0 [] (bodyPost P fn R) e L l := fun u hu => by
  rcases he with rfl | rfl <;> exact ⟨rfl, _, results_none hr _ _ _, hR u hu⟩
theorem out1 {fn : Func} {R : Ending → World → Prop} {t : Nat} {v : Value} (hr : fn.results = #[.tmp t]) (hv : l[t]? = some v) (hR : ∀ u, St n0 w0 L u → R (.returned v) u) : QS n0 w0 [] (bodyPost P fn R) .ret L l := fun u hu => by
  have h := results_tmp hr l.toArray P u
  simp [hv] at h
  exact ⟨rfl, _, h, hR u hu⟩
theorem out2 {fn : Func} {R : Ending → World → Prop} {t1 t2 : Nat} {v1 v2 : Value} (hr : fn.results = #[.tmp t1, .tmp t2]) (h1 : l[t1]? = some v1) (h2 : l[t2]? = some v2)
    (hR : ∀ u, St n0 w0 L u → R (.returned (.tuple #[v1, v2])) u) : QS n0 w0 [] (bodyPost P fn R) .ret L l := fun u hu => by
  have h := results_tmp2 hr l.toArray P u
  simp [h1, h2] at h
  exact ⟨rfl, _, h, hR u hu⟩
theorem out3 {fn : Func} {R : Ending → World → Prop} {t1 t2 t3 : Nat} {v1 v2 v3 : Value} (hr : fn.results = #[.tmp t1, .tmp t2, .tmp t3]) (h1 : l[t1]? = some v1) (h2 : l[t2]? = some v2) (h3 : l[t3]? = some v3)
    (hR : ∀ u, St n0 w0 L u → R (.returned (.tuple #[v1, v2, v3])) u) : QS n0 w0 [] (bodyPost P fn R) .ret L l := fun u hu => by
  have h := results_tmp3 hr l.toArray P u
  simp [h1, h2, h3] at h
  exact ⟨rfl, _, h, hR u hu⟩

/-- A scalar result. -/
theorem retB {v : Value} : ∀ u, St w0.heap.size w0 L u → RetB w0 v (.returned v) u := fun _ hu => ⟨rfl, hu.below⟩
theorem retBe {v v' : Value} (h : v' = v) : ∀ u, St w0.heap.size w0 L u → RetB w0 v (.returned v') u := fun _ hu => ⟨by rw [h], hu.below⟩
/-- A result whose memory is part j. -/
theorem retF {v : Value} {A : SA} {j : Nat} (hj : L[j]? = some A) : ∀ u, St w0.heap.size w0 L u → RetF w0 v A (.returned v) u := fun _ hu =>
  ⟨rfl, hu.below, let ⟨T, h1, h2⟩ := hu.get hj; ⟨T, h2, h1⟩⟩

/-! ### Calls -/
/-- A call whose contract says: this value, nothing turned. -/
theorem det_callB {f : Operand} {args : List Operand} {ts : Array TypeId} {fn : FuncId} {cap : List Value} {vs : List Value} {v : Value}
    (hf : evo l f = some (.func (.func fn) #[] cap.toArray)) (hv : evs l args = some vs) (he : Ent P fn)
    (hc : ∀ u, St n0 w0 L u → Calls P fn (vs ++ cap).toArray u (RetB u v)) :
    Det P (St n0 w0 L) ⟨d, .call ⟨.value f, args.toArray, ts⟩, ty, ps, af, g⟩ l v :=
  det_call hc hf he hv

theorem WS.callF {β : Type} {f : Operand} {args : List Operand} {ts : Array TypeId} {fn : FuncId} {cap : List Value} {vs : List Value} {v : β → Value} {A : β → SA} {p : β → Prop} {i : Nat} {l' : β → List Value}
    (hf : evo l f = some (.func (.func fn) #[] cap.toArray)) (hv : evs l args = some vs) (he : Ent P fn)
    (hc : ∀ u, St n0 w0 L u → Calls P fn (vs ++ cap).toArray u (fun e u' => ∃ x, p x ∧ RetF u (v x) (A x) e u'))
    (hl : ∀ x, lset l i (v x) = some (l' x)) (k : ∀ x, p x → WS P ro n0 w0 ds ops Q (A x :: L) rest (l' x)) :
    WS P ro n0 w0 ds ops Q L (⟨some i, .call ⟨.value f, args.toArray, ts⟩, ty, ps, af, none⟩ :: rest) l := by
  intro u hu
  unfold wpListIn
  rw [if_pos (by simp [Region.wanted])]
  refine ⟨fun _ _ => trivial, ?_⟩
  rw [semAt_calm rfl, eval_ev]
  have hr : (execOp (ev l) ⟨some i, .call ⟨.value f, args.toArray, ts⟩, ty, ps, af, none⟩).run P u = .ok (.enter fn (vs ++ cap).toArray) u := by
    have h1 : ∀ (args : Array Value) (w : World), Sem.run P (callFunc fn args) w = .ok (.enter fn args) w := he
    replace hf := ev_of hf
    replace hv := evs_of hv
    subst hv
    simp [execOp, hf, resolve, invoke, Deferred.ofValue, h1]
  rw [hr]
  refine ⟨fun h => by simp [FW] at h, callsIn_FW ((hc u hu).mono ?_)⟩
  rintro e u' ⟨x, hp, rfl, hb, T, hA, hT⟩
  show wpListIn (FW ro) 0 P ops Q rest ((Act.mk l.toArray ds).put (some i) (v x)) u'
  rw [put_some, lset_of (hl x)]
  exact k x hp u' (hu.cons hb hA hT)

/-! ### A region that draws its order, whose operations hand back one value each whatever the order -/
theorem det_quiet {o : Oper} {v : Value} (h : Det P (St n0 w0 L) o l v) : ∀ u, St n0 w0 L u → o.quietAt P ⟨l.toArray, ds⟩ (St n0 w0 L) u v := fun u hu => by
  have h1 := h u hu
  unfold Oper.quietAt
  rw [eval_ev]
  generalize (execOp (ev l) o).run P u = r at *
  cases r with
  | halt x w' => simp only [DetUpon] at h1
  | ok n w' =>
    cases n <;> simp only [DetUpon] at h1
    · exact h1
    · obtain ⟨e, hc⟩ := h1
      exact ⟨e, hc.mono fun _ _ ⟨h1, h2⟩ => ⟨h1, hu.ext h2⟩⟩

/-- The rest of such a region. -/
def DS (P : Program) (n0 : Nat) (w0 : World) (ds : List Deferred) (ops : Array Oper) (Q : Exit → Act → World → Prop) (L : List SA) (rest : List Oper) (l : List Value) : Prop :=
  wpQuiet P ops (St n0 w0 L) (fun a' => ∀ u, St n0 w0 L u → Q .normal a' u) rest ⟨l.toArray, ds⟩

theorem DS.det {o : Oper} {d : Nat} {v : Value} (hd : o.dst = some d) (hg : o.guard = none) (h : Det P (St n0 w0 L) o l v)
    {l' : List Value} (hl : lset l d v = some l') (k : DS P n0 w0 ds ops Q L rest l') : DS P n0 w0 ds ops Q L (o :: rest) l := by
  rw [← lset_of hl] at k
  unfold DS wpQuiet
  rw [if_pos (by simp [Region.wanted, hg])]
  refine ⟨v, det_quiet h, ?_⟩
  rw [hd, put_some]
  exact k
theorem DS.guard {o : Oper} {d : Nat} {v : Value} {g : Nat × Bool} {b : Bool} (hd : o.dst = some d) (hg : o.guard = some g)
    (hb : (yielded ops l.toArray g.1 == some g.2) = b) (h : b = true → Det P (St n0 w0 L) o l v)
    {l' : List Value} (hl : lset l d (cond b v undef) = some l') (k : DS P n0 w0 ds ops Q L rest l') : DS P n0 w0 ds ops Q L (o :: rest) l := by
  rw [← lset_of hl] at k
  unfold DS wpQuiet
  have hw : Region.wanted o (yielded ops (Act.mk l.toArray ds).tmps) = b := by
    obtain ⟨j, want⟩ := g
    simp only [Region.wanted, hg]
    exact hb
  rw [hw]
  cases b with
  | true =>
    rw [if_pos rfl]
    refine ⟨v, det_quiet (h rfl), ?_⟩
    rw [hd, put_some]
    exact k
  | false =>
    rw [if_neg (by simp)]
    rw [hd, put_some]
    exact k
theorem DS.done (k : QS n0 w0 ds Q .normal L l) : DS P n0 w0 ds ops Q L [] l := k

theorem quiet_wpIn {C : World → Prop} {o : Oper} {a : Act} {K : Act → Prop} {K' : Act → World → Prop} {Q' : Exit → Act → World → Prop} {w : World} (hc : calm o.op = true) (hw : C w) (h : ∀ a w', C w' → K a → K' a w') (hh : o.quiet P a C K) :
    o.wpIn (FW ro) 0 P a w K' Q' := by
  obtain ⟨v, h1, h2⟩ := hh
  have h3 := h1 w hw
  refine ⟨fun _ _ => trivial, ?_⟩
  rw [semAt_calm hc]
  unfold Oper.quietAt at h3
  generalize (execOp a.eval o).run P w = r at *
  cases r with
  | ok n w' =>
    cases n <;> simp only [Oper.quietUpon] at h3 <;> simp only [Oper.uponIn]
    case value u =>
      obtain ⟨e1, e2⟩ := h3
      rw [e1, e2]
      exact h _ _ hw h2
    case skip =>
      obtain ⟨e1, e2⟩ := h3
      rw [e1, ← e2]
      exact h _ _ hw h2
    case enter f args =>
      obtain ⟨e1, hc⟩ := h3
      rw [e1]
      exact ⟨fun h => by simp [FW] at h, callsIn_FW (hc.mono fun e w'' ⟨he, hw''⟩ => by subst he; exact h _ _ hw'' h2)⟩
  | halt x w' => simp only [Oper.quietUpon] at h3

def allCalm (ops : Array Oper) : Bool := ops.all fun o => calm o.op
theorem allCalm_spec (h : allCalm ops = true) (j : Nat) (o : Oper) (ho : ops[j]? = some o) : calm o.op = true := by
  unfold allCalm at h
  rw [Array.all_eq_true] at h
  obtain ⟨hj, rfl⟩ := Array.getElem?_eq_some_iff.1 ho
  exact h j hj

theorem qOp_wpIn {C : World → Prop} {i : Nat} {a : Act} {K : Act → Prop} {K' : Act → World → Prop} {Q' : Exit → Act → World → Prop} {w : World} (hcalm : allCalm ops = true) (hC : C w) (h : ∀ a w', C w' → K a → K' a w') (hh : qOp P ops C i K a) :
    wpOpIn (FW ro) 0 P ops Q' i K' a w := by
  unfold qOp at hh
  unfold wpOpIn
  split
  · rename_i ho; simp only [ho] at hh; exact h _ _ hC hh
  · rename_i o ho
    simp only [ho] at hh
    split
    · rename_i hw; simp only [hw, if_true] at hh; exact quiet_wpIn (allCalm_spec hcalm _ _ ho) hC h hh
    · rename_i hw; simp only [hw] at hh; exact ⟨fun _ _ => trivial, h _ _ hC hh⟩

theorem wpAnyQ_in {C : World → Prop} {md : Region.Mode} {K : Act → Prop} {Q' : Exit → Act → World → Prop} (hcalm : allCalm ops = true) (hQ : ∀ a w, C w → K a → Q' .normal a w) : ∀ (fuel : Nat) (listed : Array Bool) (a : Act) (w : World), C w →
    wpAnyQ P md ops C K fuel listed a → wpAnyIn (FW ro) 0 P md ops Q' fuel listed a w
  | 0, _, _, _, hw, h => ⟨h.1, hQ _ _ hw h.2⟩
  | fuel + 1, _, _, _, hw, h => ⟨fun h0 => hQ _ _ hw (h.1 h0), fun i hi => qOp_wpIn hcalm hw (fun a' w' hw' => wpAnyQ_in hcalm hQ fuel _ a' w' hw') (h.2 i hi)⟩

theorem St.drew {u : World} (h : St n0 w0 L u) : St n0 w0 L { u with drawn := u.drawn + 1 } := h.ext ⟨rfl, rfl, rfl, Nat.le_refl _, fun _ _ => rfl⟩

theorem CS.draw {id : Nat} {os : List Oper} (hm : P.follows .mixedOrders = true) (hB : Region.lexB .any os.toArray = true) (hcalm : allCalm os.toArray = true) (k : DS P n0 w0 ds os.toArray Q L os l) :
    CS P ro n0 w0 ds (.region id os.toArray true) Q L l := fun u hu => by
  simp only [Region.lexB, Bool.and_eq_true] at hB
  refine wpIn_region_any hm (wpAnyQ_in (C := St n0 w0 L) (K := fun a' => ∀ u, St n0 w0 L u → Q .normal a' u) hcalm (fun _ w' hw' h => h w' hw') _ _ _ _ hu.drew ?_)
  have := wpAnyQ_lex (C := St n0 w0 L) (md := .any) (P := P) hB.1 os 0 (Array.replicate os.toArray.size false) ⟨l.toArray, ds⟩ (by simp) (by simpa using hB.2) k
  simpa using this
end

end Go.Proofs.Ytldagbcceefcdaa

/- part Walk -/
/- The rules in the form in which a program prints them: guarded operations, loops, cuts. No program in sight. -/
namespace Go.Proofs.Ytldagbcceefcdaa
set_option linter.unusedVariables false
set_option linter.unusedSimpArgs false
open Go.RowKit

theorem ev_cond {l : List Value} {x : Operand} {v : Value} {b : Bool} (hb : b = true) (h : evo l x = some (cond b v undef)) : evo l x = some v := by subst hb; exact h
theorem evs_nil {l : List Value} : evs l [] = some [] := rfl
theorem evs_cons {l : List Value} {x : Operand} {xs : List Operand} {v : Value} {vs : List Value} (h : evo l x = some v) (h2 : evs l xs = some vs) : evs l (x :: xs) = some (v :: vs) := by
  simp [evs, h, h2]

/-- The frame that fits a pattern, asked so that 'rfl' lays it open. -/
def fillo : List (Option Value) → (Nat → Value) → Nat → Option (List Value)
  | [], _, _ => some []
  | some v :: p, t, i => match fillo p t (i + 1) with
    | some r => some (v :: r)
    | none => none
  | none :: p, t, i => match fillo p t (i + 1) with
    | some r => some (t i :: r)
    | none => none
theorem fillo_of : ∀ {p : List (Option Value)} {t : Nat → Value} {i : Nat} {l : List Value}, fillo p t i = some l → fill p t i = l
  | [], t, i, l, h => by simp [fillo] at h; subst h; rfl
  | some v :: p, t, i, l, h => by
    unfold fillo at h
    split at h
    · rename_i r hr; simp at h; subst h; simp [fill, fillo_of hr]
    · simp at h
  | none :: p, t, i, l, h => by
    unfold fillo at h
    split at h
    · rename_i r hr; simp at h; subst h; simp [fill, fillo_of hr]
    · simp at h
theorem fm_fill : ∀ (p : List (Option Value)) (t : Nat → Value) (i : Nat), FM p (fill p t i)
  | [], _, _ => trivial
  | some _ :: p, t, i => ⟨rfl, fm_fill p t (i + 1)⟩
  | none :: p, t, i => fm_fill p t (i + 1)
/-- The frame at hand fits. -/
theorem fm_of {p : List (Option Value)} {l : List Value} {t : Nat → Value} (h : fillo p t 0 = some l) : FM p l := by
  rw [← fillo_of h]; exact fm_fill p t 0

def pat (l : List Value) (dead : List Nat) (vals : List (Nat × Value)) : List (Option Value) := named (mask l dead 0) vals

section
variable {P : Program} {ro : Option Nat} {n0 : Nat} {w0 : World} {ds : List Deferred} {ops : Array Oper} {Q : Exit → Act → World → Prop} {L : List SA}
  {rest : List Oper} {l : List Value}

theorem WS.guardT {o : Oper} {d j : Nat} {v : Value} {b : Bool} (hc : calm o.op = true) (hd : o.dst = some d) (hg : o.guard = some (j, true))
    (hb : yielded ops l.toArray j = some b) (h : b = true → Det P (St n0 w0 L) o l v) {l' : List Value} (hl : lset l d (cond b v undef) = some l') (k : WS P ro n0 w0 ds ops Q L rest l') : WS P ro n0 w0 ds ops Q L (o :: rest) l :=
  WS.guard hc hd hg (b := b) (by rw [hb]; cases b <;> rfl) h hl k
theorem WS.guardF {o : Oper} {d j : Nat} {v : Value} {b : Bool} (hc : calm o.op = true) (hd : o.dst = some d) (hg : o.guard = some (j, false))
    (hb : yielded ops l.toArray j = some b) (h : (!b) = true → Det P (St n0 w0 L) o l v) {l' : List Value} (hl : lset l d (cond (!b) v undef) = some l') (k : WS P ro n0 w0 ds ops Q L rest l') : WS P ro n0 w0 ds ops Q L (o :: rest) l :=
  WS.guard hc hd hg (b := !b) (by rw [hb]; cases b <;> rfl) h hl k
theorem DS.guardT {o : Oper} {d j : Nat} {v : Value} {b : Bool} (hd : o.dst = some d) (hg : o.guard = some (j, true))
    (hb : yielded ops l.toArray j = some b) (h : b = true → Det P (St n0 w0 L) o l v) {l' : List Value} (hl : lset l d (cond b v undef) = some l') (k : DS P n0 w0 ds ops Q L rest l') : DS P n0 w0 ds ops Q L (o :: rest) l :=
  DS.guard hd hg (b := b) (by rw [hb]; cases b <;> rfl) h hl k
theorem DS.guardF {o : Oper} {d j : Nat} {v : Value} {b : Bool} (hd : o.dst = some d) (hg : o.guard = some (j, false))
    (hb : yielded ops l.toArray j = some b) (h : (!b) = true → Det P (St n0 w0 L) o l v) {l' : List Value} (hl : lset l d (cond (!b) v undef) = some l') (k : DS P n0 w0 ds ops Q L rest l') : DS P n0 w0 ds ops Q L (o :: rest) l :=
  DS.guard hd hg (b := !b) (by rw [hb]; cases b <;> rfl) h hl k

/-- The guard's own operation is guarded by c: its slot holds x where c says yes. -/
theorem yield_nest {j s : Nat} {c x want : Bool} (hs : (ops[j]?).bind (·.dst) = some s) (hv : l[s]? = some (cond c (.bool x) undef)) : (yielded ops l.toArray j == some want) = (c && (x == want)) := by
  unfold yielded
  rw [hs]
  have : l.toArray[s]? = some (cond c (.bool x) undef) := by simpa using hv
  simp only [Option.bind_some, this]
  cases c <;> cases x <;> cases want <;> rfl
theorem WS.guardN {o : Oper} {d j s : Nat} {v : Value} {c x want : Bool} (hc : calm o.op = true) (hd : o.dst = some d) (hg : o.guard = some (j, want))
    (hs : (ops[j]?).bind (·.dst) = some s) (hv : l[s]? = some (cond c (.bool x) undef)) (h : (c && (x == want)) = true → Det P (St n0 w0 L) o l v) {l' : List Value} (hl : lset l d (cond (c && (x == want)) v undef) = some l')
    (k : WS P ro n0 w0 ds ops Q L rest l') : WS P ro n0 w0 ds ops Q L (o :: rest) l :=
  WS.guard hc hd hg (b := c && (x == want)) (yield_nest hs hv) h hl k
theorem DS.guardN {o : Oper} {d j s : Nat} {v : Value} {c x want : Bool} (hd : o.dst = some d) (hg : o.guard = some (j, want))
    (hs : (ops[j]?).bind (·.dst) = some s) (hv : l[s]? = some (cond c (.bool x) undef)) (h : (c && (x == want)) = true → Det P (St n0 w0 L) o l v) {l' : List Value} (hl : lset l d (cond (c && (x == want)) v undef) = some l')
    (k : DS P n0 w0 ds ops Q L rest l') : DS P n0 w0 ds ops Q L (o :: rest) l :=
  DS.guard hd hg (b := c && (x == want)) (yield_nest hs hv) h hl k
theorem and_l {a b : Bool} (h : (a && b) = true) : a = true := by cases a <;> simp_all
theorem and_r {a b : Bool} (h : (a && (b == true)) = true) : b = true := by cases a <;> simp_all
theorem and_rf {a b : Bool} (h : (a && (b == false)) = true) : b = false := by cases a <;> simp_all
theorem not_t {a : Bool} (h : (!a) = true) : a = false := by cases a <;> simp_all

/-- What is to be shown at a round's end. -/
def AtHead (n0 : Nat) (w0 : World) (ds : List Deferred) {σ : Type} (l0 : List Value) (dead : List Nat) (vals : σ → List (Nat × Value)) (M : σ → List SA) (I : σ → Prop) (a : Act) (u : World) : Prop :=
  ∃ s l', a = ⟨l'.toArray, ds⟩ ∧ FM (pat l0 dead (vals s)) l' ∧ St n0 w0 (M s) u ∧ I s

theorem CS.loopM {σ : Type} {c : Code} (dead : List Nat) (vals : σ → List (Nat × Value)) (M : σ → List SA) (I : σ → Prop) (μ : σ → Nat) (s0 : σ) {fr : σ → (Nat → Value) → List Value}
    (hfr : ∀ s t, fillo (pat l dead (vals s)) t 0 = some (fr s t)) (h0 : fillo (pat l dead (vals s0)) (fun i => l.getD i undef) 0 = some l) (hM : M s0 = L) (hI : I s0)
    (round : ∀ s t, I s → CS P ro n0 w0 ds c (Exit.then (AtHead n0 w0 ds l dead vals M fun s' => I s' ∧ μ s' < μ s) Q) (M s) (fr s t)) :
    CS P ro n0 w0 ds (.loop c) Q L l := by
  refine CS.loop (fun s => pat l dead (vals s)) M I μ s0 (fm_of h0) hM hI fun s t hs => ?_
  rw [fillo_of (hfr s t)]
  intro u hu
  refine Go.wpIn_mono (round s t hs u hu) fun e a u h => ?_
  cases e <;> exact h

theorem QS.head {σ : Type} {l0 : List Value} {dead : List Nat} {vals : σ → List (Nat × Value)} {M : σ → List SA} {I : σ → Prop} (s : σ)
    (hf : fillo (pat l0 dead (vals s)) (fun i => l.getD i undef) 0 = some l) (hM : M s = L) (hI : I s) : QS n0 w0 ds (Exit.then (AtHead n0 w0 ds l0 dead vals M I) Q) .normal L l := fun u hu =>
  ⟨s, l, rfl, fm_of hf, hM ▸ hu, hI⟩

/-- A cut: what is known behind x is all that y is walked from. -/
theorem CS.cut {σ : Type} {x y : Code} (dead : List Nat) (vals : σ → List (Nat × Value)) (M : σ → List SA) (I : σ → Prop) {fr : σ → (Nat → Value) → List Value}
    (hfr : ∀ s t, fillo (pat l dead (vals s)) t 0 = some (fr s t))
    (hx : CS P ro n0 w0 ds x (Exit.then (AtHead n0 w0 ds l dead vals M I) Q) L l)
    (k : ∀ s t, I s → CS P ro n0 w0 ds y Q (M s) (fr s t)) : CS P ro n0 w0 ds (.seq x y) Q L l := by
  intro u hu
  refine wpIn_seq (Go.wpIn_mono (hx u hu) fun e a u h => ?_)
  cases e <;> try exact h
  obtain ⟨s, l', rfl, hf, hst, hI⟩ := h
  obtain ⟨t, rfl⟩ := hf.fill 0
  rw [fillo_of (hfr s t)]
  exact k s t hI u hst
end

end Go.Proofs.Ytldagbcceefcdaa

