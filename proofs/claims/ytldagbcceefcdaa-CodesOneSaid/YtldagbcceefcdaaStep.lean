/- The rules of the walk: what one operation hands back in every world of which the walk knows as much, and how code is left. No program in sight. -/
import Derived.Test.YtldagbcceefcdaaSep
namespace Go.Proofs.Ytldagbcceefcdaa
set_option linter.unusedVariables false
set_option linter.unusedSimpArgs false
open Go.RowKit

def ev (l : List Value) : Operand → Value
  | .tmp t => l.getD t undef
  | .const v => v
  | .global g => .pointer (some ⟨g, 0, none⟩)
  | .func f => .func (.func f) #[] #[]

/-- The same, asked so that 'rfl' lays the value open. -/
def evo (l : List Value) : Operand → Option Value
  | .tmp t => l[t]?
  | .const v => some v
  | .global g => some (.pointer (some ⟨g, 0, none⟩))
  | .func f => some (.func (.func f) #[] #[])
theorem ev_of {l : List Value} {x : Operand} {v : Value} (h : evo l x = some v) : ev l x = v := by
  cases x <;> simp_all [evo, ev, List.getD]
def evs (l : List Value) : List Operand → Option (List Value)
  | [] => some []
  | x :: xs => match evo l x, evs l xs with
    | some v, some vs => some (v :: vs)
    | _, _ => none
theorem evs_of {l : List Value} : ∀ {xs : List Operand} {vs : List Value}, evs l xs = some vs → xs.map (ev l) = vs
  | [], vs, h => by simp [evs] at h; simp [h]
  | x :: xs, vs, h => by
    unfold evs at h
    split at h
    · rename_i v vs' h1 h2
      simp at h
      subst h
      simp [ev_of h1, evs_of h2]
    · simp at h
/-- A list with one place turned, asked so that 'rfl' lays it open. -/
def lset {α : Type} : List α → Nat → α → Option (List α)
  | [], _, _ => some []
  | _ :: l, 0, v => some (v :: l)
  | x :: l, n + 1, v => match lset l n v with
    | some r => some (x :: r)
    | none => none
theorem lset_of {α : Type} : ∀ {l : List α} {n : Nat} {v : α} {r : List α}, lset l n v = some r → l.set n v = r
  | [], n, v, r, h => by simp [lset] at h; subst h; simp
  | x :: l, 0, v, r, h => by simp [lset] at h; subst h; simp
  | x :: l, n + 1, v, r, h => by
    unfold lset at h
    split at h
    · rename_i r' h'
      simp at h
      subst h
      simp [lset_of h']
    · simp at h

theorem eval_ev (l : List Value) (ds : List Deferred) : (Act.mk l.toArray ds).eval = ev l := by
  funext x
  cases x <;> simp [Act.eval, ev, List.getD]

/-- The function is entered when it is called. -/
def Ent (P : Program) (f : FuncId) : Prop := ∀ args w, (callFunc f args).run P w = .ok (.enter f args) w

theorem ent_of {P : Program} {f : FuncId} {fn : Func} {c : Code} (hf : P.funcs[f]? = some fn) (hn : (fn.name == "runtime.NumGoroutine") = false) (hb : fn.body = some c) : Ent P f := by
  intro args w
  have h1 : fn.name ≠ "runtime.NumGoroutine" := by simpa using hn
  simp [callFunc, hf, h1, hb, mark]

/-- What is asked once an operation carried out in u has yielded this: the value v in the world that it got; or a call that hands back v and turns nothing that lay there. -/
def DetUpon (P : Program) (w : World) (v : Value) : Result Next → Prop
  | .ok (.value u) w' => w' = w ∧ u = v
  | .ok (.enter f args) w' => w' = w ∧ Calls P f args w (RetB w v)
  | _ => False

/-- Operation o, in every world of C, hands back v, and turns nothing. -/
def Det (P : Program) (C : World → Prop) (o : Oper) (l : List Value) (v : Value) : Prop :=
  ∀ u, C u → DetUpon P u v ((execOp (ev l) o).run P u)

def calm : Op → Bool
  | .defer _ => false
  | .select _ _ => false
  | _ => true

theorem semAt_calm {ro : Option Nat} {ρ : Operand → Value} {o : Oper} (h : calm o.op = true) : o.semAt ro ρ = execOp ρ o := by
  cases ro with
  | none => simp [Oper.semAt_none]
  | some l => exact Oper.semAt_some l ρ o fun c hc => by rw [hc] at h; cases h

section
variable (P : Program) (ro : Option Nat) (n0 : Nat) (w0 : World) (ds : List Deferred)

/-- The rest of a region, from frame l on, in every world that the parts L describe. -/
def WS (ops : Array Oper) (Q : Exit → Act → World → Prop) (L : List SA) (rest : List Oper) (l : List Value) : Prop :=
  ∀ u, St n0 w0 L u → wpListIn (FW ro) 0 P ops Q rest ⟨l.toArray, ds⟩ u

/-- Code, likewise. -/
def CS (c : Code) (Q : Exit → Act → World → Prop) (L : List SA) (l : List Value) : Prop :=
  ∀ u, St n0 w0 L u → c.wpIn (FW ro) 0 P Q ⟨l.toArray, ds⟩ u

/-- What stands behind. -/
def QS (Q : Exit → Act → World → Prop) (e : Exit) (L : List SA) (l : List Value) : Prop :=
  ∀ u, St n0 w0 L u → Q e ⟨l.toArray, ds⟩ u
end

section
variable {P : Program} {ro : Option Nat} {n0 : Nat} {w0 : World} {ds : List Deferred} {ops : Array Oper} {Q : Exit → Act → World → Prop} {L : List SA}
  {rest : List Oper} {l : List Value}

theorem wanted_none {op : Op} {d : Option Tmp} {t : TypeId} {p : String} {af : Array Edge} {y : Nat → Option Bool} : Region.wanted ⟨d, op, t, p, af, none⟩ y = true := rfl

theorem callsIn_FW {n : Nat} {f : FuncId} {args : Array Value} {w : World} {R : Ending → World → Prop} (h : Calls P f args w R) : CallsIn (FW ro) n P f args w R :=
  ⟨trivial, fun cs _ => let ⟨e, w', fr, r, s, x⟩ := h cs; ⟨e, w', fr, r, comesIn_wide.2 s, x⟩⟩

theorem quiet_uponIn {o : Oper} {a : Act} {u : World} {v : Value} {r : Result Next} {K : Act → World → Prop}
    (h : DetUpon P u v r) (hK : ∀ u', Below u.heap.size u u' → K (a.put o.dst v) u') : o.uponIn (FW ro) 0 P a K Q r := by
  cases r with
  | halt x w' => simp only [DetUpon] at h
  | ok n w' =>
    cases n <;> simp only [DetUpon] at h <;> simp only [Oper.uponIn]
    case value x => obtain ⟨rfl, rfl⟩ := h; exact hK _ (Below.refl _ _)
    case enter f args =>
      obtain ⟨rfl, hc⟩ := h
      exact ⟨fun h => by simp [FW] at h, callsIn_FW (hc.mono fun e w'' ⟨he, hw''⟩ => by subst he; exact hK _ hw'')⟩

theorem put_some (l : List Value) (d : Nat) (v : Value) : (Act.mk l.toArray ds).put (some d) v = ⟨(l.set d v).toArray, ds⟩ := by
  simp [Act.put]
theorem put_none (l : List Value) (v : Value) : (Act.mk l.toArray ds).put none v = ⟨l.toArray, ds⟩ := rfl

theorem WS.det {o : Oper} {d : Nat} {v : Value} (hc : calm o.op = true) (hd : o.dst = some d) (hg : o.guard = none) (h : Det P (St n0 w0 L) o l v)
    {l' : List Value} (hl : lset l d v = some l') (k : WS P ro n0 w0 ds ops Q L rest l') : WS P ro n0 w0 ds ops Q L (o :: rest) l := by
  rw [← lset_of hl] at k
  intro u hu
  unfold wpListIn
  rw [if_pos (by simp [Region.wanted, hg])]
  refine ⟨fun _ _ => trivial, ?_⟩
  rw [semAt_calm hc, eval_ev]
  refine quiet_uponIn (h u hu) fun u' hu' => ?_
  rw [hd, put_some]
  exact k u' (hu.ext hu')

/-- A guarded operation: b says whether it is carried out. -/
theorem WS.guard {o : Oper} {d : Nat} {v : Value} {g : Nat × Bool} {b : Bool} (hc : calm o.op = true) (hd : o.dst = some d) (hg : o.guard = some g)
    (hb : (yielded ops l.toArray g.1 == some g.2) = b) (h : b = true → Det P (St n0 w0 L) o l v)
    {l' : List Value} (hl : lset l d (cond b v undef) = some l') (k : WS P ro n0 w0 ds ops Q L rest l') : WS P ro n0 w0 ds ops Q L (o :: rest) l := by
  rw [← lset_of hl] at k
  intro u hu
  unfold wpListIn
  have hw : Region.wanted o (yielded ops (Act.mk l.toArray ds).tmps) = b := by
    obtain ⟨j, want⟩ := g
    simp only [Region.wanted, hg]
    exact hb
  rw [hw]
  cases b with
  | true =>
    rw [if_pos rfl]
    refine ⟨fun _ _ => trivial, ?_⟩
    rw [semAt_calm hc, eval_ev]
    refine quiet_uponIn (h rfl u hu) fun u' hu' => ?_
    rw [hd, put_some]
    exact k u' (hu.ext hu')
  | false =>
    rw [if_neg (by simp)]
    refine ⟨fun _ _ => trivial, ?_⟩
    rw [hd, put_some]
    exact k u hu

theorem WS.eq {l' : List Value} (h : l = l') (k : WS P ro n0 w0 ds ops Q L rest l') : WS P ro n0 w0 ds ops Q L rest l := h ▸ k

theorem WS.done (k : QS n0 w0 ds Q .normal L l) : WS P ro n0 w0 ds ops Q L [] l := fun u hu => k u hu

/-! ### Code -/
theorem CS.region {id : Nat} {os : List Oper} (k : WS P ro n0 w0 ds os.toArray Q L os l) : CS P ro n0 w0 ds (.region id os.toArray false) Q L l :=
  fun u hu => wpIn_region_lit (k u hu)
theorem CS.seq {x y : Code} (k : CS P ro n0 w0 ds x (Exit.then (y.wpIn (FW ro) 0 P Q) Q) L l) : CS P ro n0 w0 ds (.seq x y) Q L l := fun u hu => wpIn_seq (k u hu)
theorem CS.skip (k : QS n0 w0 ds Q .normal L l) : CS P ro n0 w0 ds .skip Q L l := fun u hu => wpIn_skip (k u hu)
theorem CS.ret (k : QS n0 w0 ds Q .ret L l) : CS P ro n0 w0 ds .ret Q L l := fun u hu => wpIn_ret (k u hu)
theorem CS.leave {id : Nat} (k : QS n0 w0 ds Q (.exit id) L l) : CS P ro n0 w0 ds (.exit id) Q L l := fun u hu => wpIn_exit (k u hu)
theorem CS.block {id : Nat} {c : Code} (k : CS P ro n0 w0 ds c (Exit.inBlock id Q) L l) : CS P ro n0 w0 ds (.block id c) Q L l := fun u hu => wpIn_block (k u hu)
theorem CS.cond {c : Operand} {x y : Code} {b : Bool} (hc : evo l c = some (.bool b)) (kt : b = true → CS P ro n0 w0 ds x Q L l) (kf : b = false → CS P ro n0 w0 ds y Q L l) :
    CS P ro n0 w0 ds (.cond c x y) Q L l := fun u hu => by
  refine wpIn_cond_split (t := b) (by rw [eval_ev]; exact ev_of hc) (fun h => kt h u hu) (fun h => kf h u hu)
theorem CS.eq {c : Code} {l' : List Value} (h : l = l') (k : CS P ro n0 w0 ds c Q L l') : CS P ro n0 w0 ds c Q L l := h ▸ k

theorem QS.then_normal {K : Act → World → Prop} (k : ∀ u, St n0 w0 L u → K ⟨l.toArray, ds⟩ u) : QS n0 w0 ds (Exit.then K Q) .normal L l := k
theorem QS.then_code {y : Code} {Q' : Exit → Act → World → Prop} (k : CS P ro n0 w0 ds y Q' L l) : QS n0 w0 ds (Exit.then (y.wpIn (FW ro) 0 P Q') Q) .normal L l := k
theorem QS.then_ret {K : Act → World → Prop} (k : QS n0 w0 ds Q .ret L l) : QS n0 w0 ds (Exit.then K Q) .ret L l := k
theorem QS.then_exit {K : Act → World → Prop} {i : Nat} (k : QS n0 w0 ds Q (.exit i) L l) : QS n0 w0 ds (Exit.then K Q) (.exit i) L l := k
theorem QS.block_normal {id : Nat} (k : QS n0 w0 ds Q .normal L l) : QS n0 w0 ds (Exit.inBlock id Q) .normal L l := k
theorem QS.block_ret {id : Nat} (k : QS n0 w0 ds Q .ret L l) : QS n0 w0 ds (Exit.inBlock id Q) .ret L l := k
theorem QS.block_exit {id : Nat} (k : QS n0 w0 ds Q .normal L l) : QS n0 w0 ds (Exit.inBlock id Q) (.exit id) L l := fun u hu => by
  simp only [Exit.inBlock, if_true]; exact k u hu
theorem QS.block_exit_ne {id i : Nat} (h : (i == id) = false) (k : QS n0 w0 ds Q (.exit i) L l) : QS n0 w0 ds (Exit.inBlock id Q) (.exit i) L l := fun u hu => by
  have : ¬ i = id := by simpa using h
  simp only [Exit.inBlock, if_neg this]; exact k u hu

/-! ### The frame at a loop's head: what each slot holds, or nothing is said of it -/
def FM : List (Option Value) → List Value → Prop
  | [], [] => True
  | some v :: p, x :: l => x = v ∧ FM p l
  | none :: p, _ :: l => FM p l
  | _, _ => False

/-- The frame that fits: what is not said is t's. -/
def fill : List (Option Value) → (Nat → Value) → Nat → List Value
  | [], _, _ => []
  | some v :: p, t, i => v :: fill p t (i + 1)
  | none :: p, t, i => t i :: fill p t (i + 1)

theorem FM.fill : ∀ {p : List (Option Value)} {l : List Value} (i : Nat), FM p l → ∃ t, l = fill p t i
  | [], [], _, _ => ⟨fun _ => undef, rfl⟩
  | [], _ :: _, _, h => h.elim
  | some v :: p, [], _, h => h.elim
  | none :: p, [], _, h => h.elim
  | some v :: p, x :: l, i, h => by
    obtain ⟨rfl, h2⟩ := h
    obtain ⟨t, rfl⟩ := h2.fill (i + 1)
    exact ⟨t, rfl⟩
  | none :: p, x :: l, i, h => by
    obtain ⟨t, rfl⟩ := FM.fill (p := p) (l := l) (i + 1) h
    refine ⟨fun k => if k = i then x else t k, ?_⟩
    simp only [Go.Proofs.Ytldagbcceefcdaa.fill, if_true]
    congr 1
    have : ∀ (q : List (Option Value)) (j : Nat), i < j → Go.Proofs.Ytldagbcceefcdaa.fill q t j = Go.Proofs.Ytldagbcceefcdaa.fill q (fun k => if k = i then x else t k) j := by
      intro q
      induction q with
      | nil => intro j _; rfl
      | cons o q ih =>
        intro j hj
        cases o with
        | none => simp only [Go.Proofs.Ytldagbcceefcdaa.fill, if_neg (show ¬ j = i by omega)]; rw [ih (j + 1) (by omega)]
        | some v => simp only [Go.Proofs.Ytldagbcceefcdaa.fill]; rw [ih (j + 1) (by omega)]
    exact this p (i + 1) (by omega)

/-- A frame's pattern: as it stands, but for the slots that are forgotten, and those that are said anew. -/
def mask : List Value → List Nat → Nat → List (Option Value)
  | [], _, _ => []
  | v :: l, dead, i => (if dead.contains i then none else some v) :: mask l dead (i + 1)
def named : List (Option Value) → List (Nat × Value) → List (Option Value)
  | p, [] => p
  | p, (i, v) :: r => named (p.set i (some v)) r

theorem least {p : Nat → Prop} (h : ∃ k, p k) : ∃ k, p k ∧ ∀ j, p j → k ≤ j := by
  obtain ⟨k, hk⟩ := h
  induction k using Nat.strongRecOn with
  | _ k ih =>
    by_cases h : ∃ j, j < k ∧ p j
    · obtain ⟨j, hj, hp⟩ := h
      exact ih j hj hp
    · exact ⟨k, hk, fun j hj => Nat.le_of_not_lt fun hlt => h ⟨j, hlt, hj⟩⟩

/-- A loop: a state s says what the slots hold and which parts of memory there are. -/
theorem CS.loop {σ : Type} {c : Code} (pat : σ → List (Option Value)) (M : σ → List SA) (I : σ → Prop) (μ : σ → Nat) (s0 : σ)
    (hpat : FM (pat s0) l) (hM : M s0 = L) (h0 : I s0)
    (round : ∀ s t, I s → CS P ro n0 w0 ds c (Exit.then (fun a u => ∃ s' l', a = ⟨l'.toArray, ds⟩ ∧ FM (pat s') l' ∧ St n0 w0 (M s') u ∧ I s' ∧ μ s' < μ s) Q) (M s) (fill (pat s) t 0)) :
    CS P ro n0 w0 ds (.loop c) Q L l := by
  intro u hu
  have hmin : ∀ a u, (∃ k s l', a = (⟨l'.toArray, ds⟩ : Act) ∧ FM (pat s) l' ∧ St n0 w0 (M s) u ∧ I s ∧ μ s = k) →
      ∃ k, (∃ s l', a = (⟨l'.toArray, ds⟩ : Act) ∧ FM (pat s) l' ∧ St n0 w0 (M s) u ∧ I s ∧ μ s = k) ∧
        ∀ j, (∃ s l', a = (⟨l'.toArray, ds⟩ : Act) ∧ FM (pat s) l' ∧ St n0 w0 (M s) u ∧ I s ∧ μ s = j) → k ≤ j := fun a u h => least h
  refine wpIn_loop (fun a u => ∃ k s l', a = (⟨l'.toArray, ds⟩ : Act) ∧ FM (pat s) l' ∧ St n0 w0 (M s) u ∧ I s ∧ μ s = k)
    (fun a u => @dite Nat _ (Classical.propDecidable _) (fun h => (hmin a u h).choose) (fun _ => 0)) ⟨_, s0, l, rfl, hpat, hM ▸ hu, h0, rfl⟩ ?_
  intro a u h
  obtain ⟨⟨s, l', rfl, hf, hst, hI, hk⟩, hle⟩ := (hmin a u h).choose_spec
  obtain ⟨t, rfl⟩ := hf.fill 0
  refine Go.wpIn_mono (round s t hI u hst) ?_
  intro e a' u' hq
  cases e <;> try exact hq
  obtain ⟨s', l'', rfl, hf', hst', hI', hlt⟩ := hq
  have h' : ∃ k s l', (⟨l''.toArray, ds⟩ : Act) = (⟨l'.toArray, ds⟩ : Act) ∧ FM (pat s) l' ∧ St n0 w0 (M s) u' ∧ I s ∧ μ s = k := ⟨_, s', l'', rfl, hf', hst', hI', rfl⟩
  refine ⟨h', ?_⟩
  rw [dif_pos h', dif_pos h, ← hk]
  exact Nat.lt_of_le_of_lt ((hmin _ _ h').choose_spec.2 _ ⟨s', l'', rfl, hf', hst', hI', rfl⟩) hlt

end
end Go.Proofs.Ytldagbcceefcdaa
