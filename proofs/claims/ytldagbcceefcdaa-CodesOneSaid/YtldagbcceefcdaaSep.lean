/- The ground of all proofs of this seat: assertions on memory as a list of parts with footprints apart from each other, and how they stand when memory grows or one part is written. No program in sight. -/
import Derived.RangeFuncNested
import Derived.OrdersIn
import Derived.Still
import Derived.TacticsIn
import Derived.WalkKit
namespace Go.Proofs.Ytldagbcceefcdaa
set_option linter.unusedVariables false
set_option linter.unusedSimpArgs false
open Go.RowKit

/-- The fence that lets everything by, outside a round or in the round of a loop. -/
def FW (ro : Option Nat) : Fence := { fn := fun _ => True, depth := none, alive := false, round := ro }

/-- Each block of the set stands as it stood. -/
def KeepC (S : Nat → Prop) (u u' : World) : Prop :=
  ∀ k, S k → ∀ o, u.heap[k]? = some o → u'.heap[k]? = some o

theorem KeepC.sub {S S' : Nat → Prop} {u u' : World} (h : KeepC S u u') (hs : ∀ k, S' k → S k) : KeepC S' u u' :=
  fun k hk => h k (hs k hk)

theorem KeepC.of_below {B : Nat} {u u' : World} (h : Below B u u') : KeepC (fun k => k < B) u u' :=
  fun k hk o hc => (h.block k hk).trans hc

/-- A part of memory: what holds of it hangs on the blocks of its footprint alone. -/
structure SA where
  h : (Nat → Prop) → World → Prop
  loc : ∀ S u u', h S u → KeepC S u u' → h S u'
  dom : ∀ S u k, h S u → S k → k < u.heap.size

def Star : List SA → (Nat → Prop) → World → Prop
  | [], _, _ => True
  | A :: L, S, u => ∃ T, (∀ k, T k → S k) ∧ A.h T u ∧ Star L (fun k => S k ∧ ¬ T k) u

theorem Star.keep : ∀ {L : List SA} {S S' : Nat → Prop} {u u' : World}, Star L S u → KeepC S u u' →
    (∀ k, S k → k < u.heap.size → S' k) → Star L S' u'
  | [], _, _, _, _, _, _, _ => trivial
  | A :: L, S, S', u, u', ⟨T, hT, hA, hL⟩, hk, hs =>
    ⟨T, fun k h => hs k (hT k h) (A.dom T u k hA h), A.loc T u u' hA (hk.sub hT),
      Star.keep hL (hk.sub fun _ h => h.1) fun k h hlt => ⟨hs k h.1 hlt, h.2⟩⟩

theorem Star.upd : ∀ {L : List SA} {j : Nat} {A : SA} {S : Nat → Prop} {u : World}, L[j]? = some A → Star L S u →
    ∃ T, (∀ k, T k → S k) ∧ A.h T u ∧ ∀ (u' : World) (B : SA) (T' : Nat → Prop), KeepC (fun k => S k ∧ ¬ T k) u u' →
      B.h T' u' → (∀ k, T' k → S k ∧ (T k ∨ u.heap.size ≤ k)) → Star (L.set j B) S u'
  | [], _, _, _, _, h, _ => by simp at h
  | A0 :: L, 0, A, S, u, h, ⟨T, hT, hA, hL⟩ => by
    obtain rfl : A0 = A := by simpa using h
    refine ⟨T, hT, hA, fun u' B T' hk hB hT' => ⟨T', fun k h => (hT' k h).1, hB, hL.keep hk fun k hk' hlt => ⟨hk'.1, fun h' => ?_⟩⟩⟩
    rcases (hT' k h').2 with h2 | h2
    · exact hk'.2 h2
    · omega
  | A0 :: L, j + 1, A, S, u, h, ⟨T0, hT0, hA0, hL⟩ => by
    obtain ⟨T, hT, hA, hc⟩ := Star.upd (j := j) (by simpa using h) hL
    refine ⟨T, fun k hk => (hT k hk).1, hA, fun u' B T' hk hB hT' => ?_⟩
    refine ⟨T0, hT0, A0.loc T0 u u' hA0 (hk.sub fun k h0 => ⟨hT0 k h0, fun h1 => (hT k h1).2 h0⟩), ?_⟩
    refine hc u' B T' (hk.sub fun k h => ⟨h.1.1, h.2⟩) hB fun k h => ?_
    obtain ⟨h1, h2⟩ := hT' k h
    refine ⟨⟨h1, fun h0 => ?_⟩, h2⟩
    rcases h2 with h2 | h2
    · exact (hT k h2).2 h0
    · have := A0.dom T0 u k hA0 h0
      omega

theorem Star.get {L : List SA} {j : Nat} {A : SA} {S : Nat → Prop} {u : World} (h : L[j]? = some A) (hs : Star L S u) : ∃ T, (∀ k, T k → S k) ∧ A.h T u := by
  obtain ⟨T, h1, h2, _⟩ := hs.upd h
  exact ⟨T, h1, h2⟩

theorem Star.erase : ∀ {L : List SA} {S : Nat → Prop} {u : World} (j : Nat), Star L S u → Star (L.eraseIdx j) S u
  | [], _, _, _, _ => trivial
  | _ :: _, _, _, 0, ⟨_, _, _, hL⟩ => hL.keep (fun _ _ _ h => h) fun _ h _ => h.1
  | _ :: _, _, _, j + 1, ⟨T, hT, hA, hL⟩ => ⟨T, hT, hA, Star.erase j hL⟩

/-- WHAT IS KNOWN OF THE WORLD IN A WALK: below n0 it is as w0 was; the parts stand beyond n0. -/
structure St (n0 : Nat) (w0 : World) (L : List SA) (u : World) : Prop where
  le : n0 ≤ w0.heap.size
  below : Below n0 w0 u
  star : Star L (fun k => n0 ≤ k) u

theorem St.nil {w : World} : St w.heap.size w [] w := ⟨Nat.le_refl _, Below.refl _ _, trivial⟩

theorem St.size {n0 : Nat} {w0 : World} {L : List SA} {u : World} (h : St n0 w0 L u) : n0 ≤ u.heap.size := Nat.le_trans h.le h.below.size

theorem St.ext {n0 : Nat} {w0 : World} {L : List SA} {u u' : World} (h : St n0 w0 L u) (hb : Below u.heap.size u u') : St n0 w0 L u' := by
  refine ⟨h.le, h.below.trans (hb.mono h.size), ?_⟩
  -- only blocks that lie in u count
  have h1 : Star L (fun k => n0 ≤ k ∧ k < u.heap.size) u := h.star.keep (fun _ _ _ h => h) fun k hk hlt => ⟨hk, hlt⟩
  exact h1.keep (fun k hk o hc => (hb.block k hk.2).trans hc) fun k hk _ => hk.1

theorem St.cons {n0 : Nat} {w0 : World} {L : List SA} {u u' : World} {A : SA} {T : Nat → Prop} (h : St n0 w0 L u) (hb : Below u.heap.size u u')
    (hA : A.h T u') (hT : ∀ k, T k → u.heap.size ≤ k) : St n0 w0 (A :: L) u' := by
  have h1 : Star L (fun k => n0 ≤ k ∧ k < u.heap.size) u := h.star.keep (fun _ _ _ h => h) fun k hk hlt => ⟨hk, hlt⟩
  refine ⟨h.le, (h.ext hb).below, T, fun k hk => ?_, hA, h1.keep (fun k hk o hc => (hb.block k hk.2).trans hc) fun k hk _ => ⟨hk.1, fun h' => ?_⟩⟩
  · have := hT k hk
    have := h.size
    omega
  · have := hT k h'
    omega

/-- One part is turned into another: what lay elsewhere lies as it lay. -/
theorem St.upd {n0 : Nat} {w0 : World} {L : List SA} {u : World} {A : SA} {j : Nat} (h : St n0 w0 L u) (hj : L[j]? = some A) :
    ∃ T, (∀ k, T k → n0 ≤ k) ∧ A.h T u ∧ ∀ (u' : World) (B : SA) (T' : Nat → Prop), Below n0 u u' → KeepC (fun k => n0 ≤ k ∧ k < u.heap.size ∧ ¬ T k) u u' →
      B.h T' u' → (∀ k, T' k → n0 ≤ k ∧ (T k ∨ u.heap.size ≤ k)) → St n0 w0 (L.set j B) u' := by
  obtain ⟨T, hT, hA, hc⟩ := h.star.upd hj
  refine ⟨T, hT, hA, fun u' B T' hb hk hB hT' => ⟨h.le, h.below.trans hb, hc u' B T' (fun k hk' o hcell => ?_) hB hT'⟩⟩
  exact hk k ⟨hk'.1, (Array.getElem?_eq_some_iff.1 hcell).1, hk'.2⟩ o hcell

theorem St.get {n0 : Nat} {w0 : World} {L : List SA} {u : World} {A : SA} {j : Nat} (h : St n0 w0 L u) (hj : L[j]? = some A) : ∃ T, (∀ k, T k → n0 ≤ k) ∧ A.h T u := h.star.get hj

theorem St.erase {n0 : Nat} {w0 : World} {L : List SA} {u : World} (j : Nat) (h : St n0 w0 L u) : St n0 w0 (L.eraseIdx j) u := ⟨h.le, h.below, h.star.erase j⟩

/-! ### A block of cells -/
def blk (b : Nat) (c : List Value) (e : TypeId) : SA where
  h S u := (∀ k, S k ↔ k = b) ∧ u.heap[b]? = some (.cells c.toArray e (0, 0))
  loc S u u' h hk := ⟨h.1, hk b ((h.1 b).2 rfl) _ h.2⟩
  dom S u k h hS := by
    obtain ⟨h1, h2⟩ := h
    rw [(h1 k).1 hS]
    exact (Array.getElem?_eq_some_iff.1 h2).1

theorem St.blk {n0 : Nat} {w0 : World} {L : List SA} {u : World} {b : Nat} {c : List Value} {e : TypeId} {j : Nat} (h : St n0 w0 L u) (hj : L[j]? = some (blk b c e)) :
    n0 ≤ b ∧ u.heap[b]? = some (.cells c.toArray e (0, 0)) := by
  obtain ⟨T, h1, h2, h3⟩ := h.get hj
  exact ⟨h1 b ((h2 b).2 rfl), h3⟩

theorem St.alloc {n0 : Nat} {w0 : World} {L : List SA} {u : World} (h : St n0 w0 L u) (c : List Value) (e : TypeId) :
    St n0 w0 (Go.Proofs.Ytldagbcceefcdaa.blk u.heap.size c e :: L) (u.alloc (.cells c.toArray e)) := by
  refine h.cons (T := fun k => k = u.heap.size) ((Below.refl _ u).alloc (Nat.le_refl _) _) ⟨fun k => Iff.rfl, ?_⟩ (fun k hk => by omega)
  exact World.alloc_heap_new u _

theorem St.store {n0 : Nat} {w0 : World} {L : List SA} {u : World} {b : Nat} {c : List Value} {e : TypeId} {j : Nat} (h : St n0 w0 L u) (hj : L[j]? = some (Go.Proofs.Ytldagbcceefcdaa.blk b c e))
    (i : Nat) (v : Value) : St n0 w0 (L.set j (Go.Proofs.Ytldagbcceefcdaa.blk b (c.set i v) e)) (u.setCell ⟨b, i, none⟩ v) := by
  obtain ⟨T, hT, ⟨hS, hb⟩, hc⟩ := h.upd hj
  refine hc _ _ (fun k => k = b) ((Below.refl _ u).setCell (p := ⟨b, i, none⟩) (hT b ((hS b).2 rfl)) v) (fun k hk o' hcell => ?_) ⟨fun k => Iff.rfl, ?_⟩ (fun k hk => by subst hk; exact ⟨hT _ ((hS _).2 rfl), .inl ((hS _).2 rfl)⟩)
  · rw [Below.heap_setCell _ _ _ _ (fun e => hk.2.2 ((hS k).2 e))]
    exact hcell
  · have := heap_setCell_same u b i c.toArray e v hb
    rw [this]
    simp

/-- The contract's word: this value, and nothing of what lay there has turned. -/
def RetB (w : World) (v : Value) : Ending → World → Prop := fun e w' => e = .returned v ∧ Below w.heap.size w w'

end Go.Proofs.Ytldagbcceefcdaa
