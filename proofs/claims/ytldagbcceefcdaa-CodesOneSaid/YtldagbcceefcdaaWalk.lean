/- The rules in the form in which a program prints them: guarded operations, loops, cuts. No program in sight. -/
import Derived.Test.YtldagbcceefcdaaFun
namespace Go.Proofs.Ytldagbcceefcdaa
set_option linter.unusedVariables false
set_option linter.unusedSimpArgs false
open Go.RowKit

theorem ev_cond {l : List Value} {x : Operand} {v : Value} {b : Bool} (hb : b = true) (h : evo l x = some (cond b v undef)) : evo l x = some v := by subst hb; exact h
theorem evs_nil {l : List Value} : evs l [] = some [] := rfl
theorem evs_cons {l : List Value} {x : Operand} {xs : List Operand} {v : Value} {vs : List Value} (h : evo l x = some v) (h2 : evs l xs = some vs) : evs l (x :: xs) = some (v :: vs) := by
  simp [evs, h, h2]

/-- The frame that fits a pattern, asked so that 'rfl' lays it open. -/
def fillo : List (Option Value) → (Nat → Value) → Nat → Option (List Value)
  | [], _, _ => some []
  | some v :: p, t, i => match fillo p t (i + 1) with
    | some r => some (v :: r)
    | none => none
  | none :: p, t, i => match fillo p t (i + 1) with
    | some r => some (t i :: r)
    | none => none
theorem fillo_of : ∀ {p : List (Option Value)} {t : Nat → Value} {i : Nat} {l : List Value}, fillo p t i = some l → fill p t i = l
  | [], t, i, l, h => by simp [fillo] at h; subst h; rfl
  | some v :: p, t, i, l, h => by
    unfold fillo at h
    split at h
    · rename_i r hr; simp at h; subst h; simp [fill, fillo_of hr]
    · simp at h
  | none :: p, t, i, l, h => by
    unfold fillo at h
    split at h
    · rename_i r hr; simp at h; subst h; simp [fill, fillo_of hr]
    · simp at h
theorem fm_fill : ∀ (p : List (Option Value)) (t : Nat → Value) (i : Nat), FM p (fill p t i)
  | [], _, _ => trivial
  | some _ :: p, t, i => ⟨rfl, fm_fill p t (i + 1)⟩
  | none :: p, t, i => fm_fill p t (i + 1)
/-- The frame at hand fits. -/
theorem fm_of {p : List (Option Value)} {l : List Value} {t : Nat → Value} (h : fillo p t 0 = some l) : FM p l := by
  rw [← fillo_of h]; exact fm_fill p t 0

def pat (l : List Value) (dead : List Nat) (vals : List (Nat × Value)) : List (Option Value) := named (mask l dead 0) vals

section
variable {P : Program} {ro : Option Nat} {n0 : Nat} {w0 : World} {ds : List Deferred} {ops : Array Oper} {Q : Exit → Act → World → Prop} {L : List SA}
  {rest : List Oper} {l : List Value}

theorem WS.guardT {o : Oper} {d j : Nat} {v : Value} {b : Bool} (hc : calm o.op = true) (hd : o.dst = some d) (hg : o.guard = some (j, true))
    (hb : yielded ops l.toArray j = some b) (h : b = true → Det P (St n0 w0 L) o l v) {l' : List Value} (hl : lset l d (cond b v undef) = some l') (k : WS P ro n0 w0 ds ops Q L rest l') : WS P ro n0 w0 ds ops Q L (o :: rest) l :=
  WS.guard hc hd hg (b := b) (by rw [hb]; cases b <;> rfl) h hl k
theorem WS.guardF {o : Oper} {d j : Nat} {v : Value} {b : Bool} (hc : calm o.op = true) (hd : o.dst = some d) (hg : o.guard = some (j, false))
    (hb : yielded ops l.toArray j = some b) (h : (!b) = true → Det P (St n0 w0 L) o l v) {l' : List Value} (hl : lset l d (cond (!b) v undef) = some l') (k : WS P ro n0 w0 ds ops Q L rest l') : WS P ro n0 w0 ds ops Q L (o :: rest) l :=
  WS.guard hc hd hg (b := !b) (by rw [hb]; cases b <;> rfl) h hl k
theorem DS.guardT {o : Oper} {d j : Nat} {v : Value} {b : Bool} (hd : o.dst = some d) (hg : o.guard = some (j, true))
    (hb : yielded ops l.toArray j = some b) (h : b = true → Det P (St n0 w0 L) o l v) {l' : List Value} (hl : lset l d (cond b v undef) = some l') (k : DS P n0 w0 ds ops Q L rest l') : DS P n0 w0 ds ops Q L (o :: rest) l :=
  DS.guard hd hg (b := b) (by rw [hb]; cases b <;> rfl) h hl k
theorem DS.guardF {o : Oper} {d j : Nat} {v : Value} {b : Bool} (hd : o.dst = some d) (hg : o.guard = some (j, false))
    (hb : yielded ops l.toArray j = some b) (h : (!b) = true → Det P (St n0 w0 L) o l v) {l' : List Value} (hl : lset l d (cond (!b) v undef) = some l') (k : DS P n0 w0 ds ops Q L rest l') : DS P n0 w0 ds ops Q L (o :: rest) l :=
  DS.guard hd hg (b := !b) (by rw [hb]; cases b <;> rfl) h hl k

/-- The guard's own operation is guarded by c: its slot holds x where c says yes. -/
theorem yield_nest {j s : Nat} {c x want : Bool} (hs : (ops[j]?).bind (·.dst) = some s) (hv : l[s]? = some (cond c (.bool x) undef)) : (yielded ops l.toArray j == some want) = (c && (x == want)) := by
  unfold yielded
  rw [hs]
  have : l.toArray[s]? = some (cond c (.bool x) undef) := by simpa using hv
  simp only [Option.bind_some, this]
  cases c <;> cases x <;> cases want <;> rfl
theorem WS.guardN {o : Oper} {d j s : Nat} {v : Value} {c x want : Bool} (hc : calm o.op = true) (hd : o.dst = some d) (hg : o.guard = some (j, want))
    (hs : (ops[j]?).bind (·.dst) = some s) (hv : l[s]? = some (cond c (.bool x) undef)) (h : (c && (x == want)) = true → Det P (St n0 w0 L) o l v) {l' : List Value} (hl : lset l d (cond (c && (x == want)) v undef) = some l')
    (k : WS P ro n0 w0 ds ops Q L rest l') : WS P ro n0 w0 ds ops Q L (o :: rest) l :=
  WS.guard hc hd hg (b := c && (x == want)) (yield_nest hs hv) h hl k
theorem DS.guardN {o : Oper} {d j s : Nat} {v : Value} {c x want : Bool} (hd : o.dst = some d) (hg : o.guard = some (j, want))
    (hs : (ops[j]?).bind (·.dst) = some s) (hv : l[s]? = some (cond c (.bool x) undef)) (h : (c && (x == want)) = true → Det P (St n0 w0 L) o l v) {l' : List Value} (hl : lset l d (cond (c && (x == want)) v undef) = some l')
    (k : DS P n0 w0 ds ops Q L rest l') : DS P n0 w0 ds ops Q L (o :: rest) l :=
  DS.guard hd hg (b := c && (x == want)) (yield_nest hs hv) h hl k
theorem and_l {a b : Bool} (h : (a && b) = true) : a = true := by cases a <;> simp_all
theorem and_r {a b : Bool} (h : (a && (b == true)) = true) : b = true := by cases a <;> simp_all
theorem and_rf {a b : Bool} (h : (a && (b == false)) = true) : b = false := by cases a <;> simp_all
theorem not_t {a : Bool} (h : (!a) = true) : a = false := by cases a <;> simp_all

/-- What is to be shown at a round's end. -/
def AtHead (n0 : Nat) (w0 : World) (ds : List Deferred) {σ : Type} (l0 : List Value) (dead : List Nat) (vals : σ → List (Nat × Value)) (M : σ → List SA) (I : σ → Prop) (a : Act) (u : World) : Prop :=
  ∃ s l', a = ⟨l'.toArray, ds⟩ ∧ FM (pat l0 dead (vals s)) l' ∧ St n0 w0 (M s) u ∧ I s

theorem CS.loopM {σ : Type} {c : Code} (dead : List Nat) (vals : σ → List (Nat × Value)) (M : σ → List SA) (I : σ → Prop) (μ : σ → Nat) (s0 : σ) {fr : σ → (Nat → Value) → List Value}
    (hfr : ∀ s t, fillo (pat l dead (vals s)) t 0 = some (fr s t)) (h0 : fillo (pat l dead (vals s0)) (fun i => l.getD i undef) 0 = some l) (hM : M s0 = L) (hI : I s0)
    (round : ∀ s t, I s → CS P ro n0 w0 ds c (Exit.then (AtHead n0 w0 ds l dead vals M fun s' => I s' ∧ μ s' < μ s) Q) (M s) (fr s t)) :
    CS P ro n0 w0 ds (.loop c) Q L l := by
  refine CS.loop (fun s => pat l dead (vals s)) M I μ s0 (fm_of h0) hM hI fun s t hs => ?_
  rw [fillo_of (hfr s t)]
  intro u hu
  refine Go.wpIn_mono (round s t hs u hu) fun e a u h => ?_
  cases e <;> exact h

theorem QS.head {σ : Type} {l0 : List Value} {dead : List Nat} {vals : σ → List (Nat × Value)} {M : σ → List SA} {I : σ → Prop} (s : σ)
    (hf : fillo (pat l0 dead (vals s)) (fun i => l.getD i undef) 0 = some l) (hM : M s = L) (hI : I s) : QS n0 w0 ds (Exit.then (AtHead n0 w0 ds l0 dead vals M I) Q) .normal L l := fun u hu =>
  ⟨s, l, rfl, fm_of hf, hM ▸ hu, hI⟩

/-- A cut: what is known behind x is all that y is walked from. -/
theorem CS.cut {σ : Type} {x y : Code} (dead : List Nat) (vals : σ → List (Nat × Value)) (M : σ → List SA) (I : σ → Prop) {fr : σ → (Nat → Value) → List Value}
    (hfr : ∀ s t, fillo (pat l dead (vals s)) t 0 = some (fr s t))
    (hx : CS P ro n0 w0 ds x (Exit.then (AtHead n0 w0 ds l dead vals M I) Q) L l)
    (k : ∀ s t, I s → CS P ro n0 w0 ds y Q (M s) (fr s t)) : CS P ro n0 w0 ds (.seq x y) Q L l := by
  intro u hu
  refine wpIn_seq (Go.wpIn_mono (hx u hu) fun e a u h => ?_)
  cases e <;> try exact h
  obtain ⟨s, l', rfl, hf, hst, hI⟩ := h
  obtain ⟨t, rfl⟩ := hf.fill 0
  rw [fillo_of (hfr s t)]
  exact k s t hI u hst
end

end Go.Proofs.Ytldagbcceefcdaa
