import Derived.Test.YtldagbcceefcdaaBase
/- part Draw -/
/- Regions that draw their order and that write or make memory: what only reads is taken first, what is left goes in its own order. No program in sight. -/
namespace Go.Proofs.Ytldagbcceefcdaa
set_option linter.unusedVariables false
set_option linter.unusedSimpArgs false
open Go.RowKit

section
variable {P : Program} {ro : Option Nat} {n0 : Nat} {w0 : World} {ds : List Deferred} {ops : Array Oper} {Q : Exit → Act → World → Prop} {L : List SA}
  {rest : List Oper} {l : List Value} {C : World → Prop}

/-- Whatever order is picked from here on, whatever lies behind; C holds all the time. -/
def AH (P : Program) (ro : Option Nat) (ops : Array Oper) (Q : Exit → Act → World → Prop) (C : World → Prop) : Nat → Array Bool → Act → World → Prop
  | 0, listed, a, w => ∀ u, Below w.heap.size w u → C u ∧ Region.ready .any ops listed = [] ∧ Q .normal a u
  | fuel + 1, listed, a, w => ∀ u, Below w.heap.size w u → C u ∧ (Region.ready .any ops listed = [] → Q .normal a u) ∧
      ∀ i ∈ Region.ready .any ops listed, wpOpIn (FW ro) 0 P ops Q i (AH P ro ops Q C fuel (listed.setIfInBounds i true)) a u

theorem below_trans {a b c : World} (h : Below a.heap.size a b) (k : Below b.heap.size b c) : Below a.heap.size a c := h.trans (k.mono h.size)

theorem AH.ext : ∀ {fuel : Nat} {listed : Array Bool} {a : Act} {w u : World}, AH P ro ops Q C fuel listed a w → Below w.heap.size w u → AH P ro ops Q C fuel listed a u
  | 0, _, _, _, _, h, hb => fun u' hb' => h u' (below_trans hb hb')
  | _ + 1, _, _, _, _, h, hb => fun u' hb' => h u' (below_trans hb hb')

theorem AH.any : ∀ {fuel : Nat} {listed : Array Bool} {a : Act} {w : World}, AH P ro ops Q C fuel listed a w → wpAnyIn (FW ro) 0 P .any ops Q fuel listed a w
  | 0, _, _, w, h => (h w (Below.refl _ _)).2
  | _ + 1, _, _, w, h => ⟨(h w (Below.refl _ _)).2.1, fun i hi => wpOpIn_mono (fun _ _ h => AH.any h) ((h w (Below.refl _ _)).2.2 i hi)⟩

/-- In frame a, in every world of C, operation o leaves v in its slot and turns nothing. -/
def Yc (P : Program) (ops : Array Oper) (C : World → Prop) (o : Oper) (v : Value) (a : Act) : Prop :=
  (Region.wanted o (yielded ops a.tmps) = true ∧ ∀ w, C w → DetUpon P w v ((execOp a.eval o).run P w)) ∨ (Region.wanted o (yielded ops a.tmps) = false ∧ v = undef)

theorem Yc.of_same {o : Oper} {v : Value} {a a' : Act} (hy : Yc P ops C o v a) (he : execOp a'.eval o = execOp a.eval o)
    (hw : Region.wanted o (yielded ops a'.tmps) = Region.wanted o (yielded ops a.tmps)) : Yc P ops C o v a' := by
  unfold Yc at *
  rw [he, hw]
  exact hy

theorem Yc.opIn {i : Nat} {o : Oper} {v : Value} {a : Act} {K : Act → World → Prop} {w : World} (hi : ops[i]? = some o) (hcalm : calm o.op = true) (hy : Yc P ops C o v a) (hC : C w)
    (hK : ∀ u, Below w.heap.size w u → K (a.put o.dst v) u) : wpOpIn (FW ro) 0 P ops Q i K a w := by
  unfold wpOpIn
  simp only [hi]
  rcases hy with ⟨hw, hv⟩ | ⟨hw, rfl⟩
  · rw [if_pos hw]
    refine ⟨fun _ _ => trivial, ?_⟩
    rw [semAt_calm hcalm]
    exact quiet_uponIn (hv w hC) hK
  · rw [if_neg (by simp [hw])]
    exact ⟨fun _ _ => trivial, hK w (Below.refl _ _)⟩

/-- Q, but nothing is let by at a panic. -/
def NP (Q : Exit → Act → World → Prop) : Exit → Act → World → Prop
  | .panic _, _, _ => False
  | e, a, w => Q e a w
theorem NP.normal {a : Act} {w : World} (h : Q .normal a w) : NP Q .normal a w := h
theorem NP.le : ∀ (e : Exit) (a : Act) (w : World), NP Q e a w → Q e a w := fun e a w h => by
  cases e <;> first | exact h | exact (h : False).elim

theorem wpOpIn_putC {j : Nat} {oi oj : Oper} {v : Value} (hj : ops[j]? = some oj) (hap : oi.apart ops oj = true) (hcalm : allCalm ops = true) (hci : calm oi.op = true)
    {K : Act → World → Prop} {a : Act} {w : World} (hy : Yc P ops C oi v a) (h : wpOpIn (FW ro) 0 P ops (NP Q) j K (a.put oi.dst v) w) :
    wpOpIn (FW ro) 0 P ops (NP Q) j (fun a' w' => Yc P ops C oi v a' ∧ K (a'.put oi.dst v) w') a w := by
  have hsi : ∀ cs b, oi.op ≠ .select cs b := fun cs b e => by rw [e] at hci; cases hci
  have hcj := allCalm_spec hcalm j oj hj
  have hsj : ∀ cs b, oj.op ≠ .select cs b := fun cs b e => by rw [e] at hcj; cases hcj
  obtain ⟨h1, h2, h3⟩ := Oper.apart_spec hap
  have keep : ∀ (a : Act), Yc P ops C oi v a → ∀ u, Yc P ops C oi v (a.put oj.dst u) := fun a hy u =>
    hy.of_same (execOp_put oi hsi a oj.dst u h3) (wanted_put oi a oj.dst u h3)
  have keepD : ∀ d, Yc P ops C oi v { a with defers := d :: a.defers } := fun d => hy.of_same rfl rfl
  unfold wpOpIn at *
  simp only [hj] at *
  rw [wanted_put oj a oi.dst v h1] at h
  split
  · rename_i hw
    simp only [hw, if_true] at h
    unfold Oper.wpIn at *
    refine ⟨fun _ _ => trivial, ?_⟩
    have h := h.2
    rw [semAt_calm hcj, execOp_put oj hsj a oi.dst v h1] at h
    rw [semAt_calm hcj]
    generalize (execOp a.eval oj).run P w = r at *
    cases r with
    | ok x w' =>
      cases x <;> simp only [Oper.uponIn] at h ⊢
      case value u => exact ⟨keep a hy u, by rw [← Act.put_comm a v u h2]; exact h⟩
      case skip => exact ⟨keep a hy _, by rw [← Act.put_comm a v undef h2]; exact h⟩
      case defer d =>
        refine ⟨keep _ (keepD d) _, ?_⟩
        rw [← Act.put_comm _ v undef h2, ← Act.put_defers]
        exact h
      case enter f args =>
        refine ⟨h.1, CallsIn.mono h.2 fun e w'' he => ?_⟩
        cases e with
        | returned u => exact ⟨keep a hy u, by rw [← Act.put_comm a v u h2]; exact he⟩
        | panicked c => exact he
        | outgrown => exact he
      case row row args => exact ⟨h.1, RowsIn.mono h.2 fun u w'' he => ⟨keep a hy u, by rw [← Act.put_comm a v u h2]; exact he⟩⟩
      case round l f tmps assign body =>
        refine ⟨h.1, RoundIn.mono h.2 fun e w'' he => ?_⟩
        cases e with
        | returned u => exact ⟨keep a hy u, by rw [← Act.put_comm a v u h2]; exact he⟩
        | panicked c => exact he
        | outgrown => exact he
    | halt x w' => cases x <;> simp only [Oper.uponIn] at h ⊢ <;> exact h
  · rename_i hw
    simp only [hw] at h
    exact ⟨fun _ _ => trivial, keep a hy _, by rw [← Act.put_comm a v undef h2]; exact h.2⟩

theorem AH.holds : ∀ {fuel : Nat} {listed : Array Bool} {a : Act} {w : World}, AH P ro ops Q C fuel listed a w → C w
  | 0, _, _, w, h => (h w (Below.refl _ _)).1
  | _ + 1, _, _, w, h => (h w (Below.refl _ _)).1

theorem AH.first {i : Nat} {oi : Oper} {v : Value} (hi : ops[i]? = some oi) (hcalm : allCalm ops = true) :
    ∀ (fuel : Nat) (listed : Array Bool) (a : Act) (w : World),
      (∀ j oj, ops[j]? = some oj → j ≠ i → listed.getD j true = false → (∀ e ∈ oj.after, Region.binds .any e = true → e.on ≠ i) → oi.apart ops oj = true) →
      i ∈ Region.ready .any ops listed → Yc P ops C oi v a →
      AH P ro ops (NP Q) C fuel (listed.setIfInBounds i true) (a.put oi.dst v) w → AH P ro ops (NP Q) C (fuel + 1) listed a w := by
  have hci := allCalm_spec hcalm i oi hi
  intro fuel
  induction fuel with
  | zero =>
    intro listed a w _ hr hy H u hu
    have Hu := H.ext hu
    refine ⟨Hu.holds, fun h => (by rw [h] at hr; cases hr), fun j hj => ?_⟩
    by_cases hji : j = i
    · subst hji; exact hy.opIn hi hci Hu.holds fun u' hu' => Hu.ext hu'
    · have := ready_mono hj hji
      rw [(H u hu).2.1] at this
      cases this
  | succ fuel ih =>
    intro listed a w hfree hr hy H u hu
    have Hu := H.ext hu
    refine ⟨Hu.holds, fun h => (by rw [h] at hr; cases hr), fun j hj => ?_⟩
    by_cases hji : j = i
    · subst hji; exact hy.opIn hi hci Hu.holds fun u' hu' => Hu.ext hu'
    · have h1 := (H u hu).2.2 j (ready_mono hj hji)
      obtain ⟨hjun, oj, hoj, hall⟩ := mem_ready.1 hj
      have hnot : ∀ e ∈ oj.after, Region.binds .any e = true → e.on ≠ i := fun e he hb heq => by
        have h1 := hall e he hb
        have h0 := (mem_ready.1 hr).1
        rw [heq] at h1
        rcases Nat.lt_or_ge i listed.size with h' | h'
        · simp [h'] at h0 h1; rw [h0] at h1; cases h1
        · simp [Array.getElem?_eq_none h'] at h1
      have h2 := wpOpIn_putC hoj (hfree j oj hoj hji hjun hnot) hcalm hci hy h1
      have hfree' : ∀ k ok, ops[k]? = some ok → k ≠ i → (listed.setIfInBounds j true).getD k true = false →
          (∀ e ∈ ok.after, Region.binds .any e = true → e.on ≠ i) → oi.apart ops ok = true := fun k ok hk hki hun hno => by
        refine hfree k ok hk hki ?_ hno
        by_cases hjk : j = k
        · subst hjk; exact hjun
        · rw [getD_set_ne true hjk] at hun; exact hun
      refine wpOpIn_mono (fun a' w' h3 => ih (listed.setIfInBounds j true) a' w' hfree' (ready_mono hr (Ne.symm hji)) h3.1 ?_) h2
      rw [Array.setIfInBounds_comm _ _ hji]
      exact h3.2

/-- What is left of the region, the operations of bl being over. -/
def AS (P : Program) (ro : Option Nat) (n0 : Nat) (w0 : World) (ds : List Deferred) (ops : Array Oper) (Q : Exit → Act → World → Prop) (C : World → Prop) (L : List SA) (fuel : Nat) (bl : List Bool) (l : List Value) : Prop :=
  ∀ u, St n0 w0 L u → AH P ro ops (NP Q) C fuel bl.toArray ⟨l.toArray, ds⟩ u

variable {bl bl' : List Bool} {fuel : Nat} {l' : List Value}

theorem CS.drawn {id : Nat} {os : List Oper} {k : Nat} (C : World → Prop) (hm : P.follows .mixedOrders = true) (hk : os.length = k) (h : AS P ro n0 w0 ds os.toArray Q C L k (List.replicate k false) l) :
    CS P ro n0 w0 ds (.region id os.toArray true) Q L l := fun u hu => by
  subst hk
  refine Go.wpIn_mono (wpIn_region_any hm ?_) (fun e a w => NP.le e a w)
  have := (h _ hu.drew).any
  simpa using this

theorem AS.take (i : Nat) {oi : Oper} {d : Nat} {v : Value} (hi : ops[i]? = some oi) (hcalm : allCalm ops = true) (hf : Region.free .any ops bl.toArray i = true) (hr : (Region.ready .any ops bl.toArray).contains i = true)
    (hd : oi.dst = some d) (hg : oi.guard = none) (h : Det P C oi l v) (hb : lset bl i true = some bl') (hl : lset l d v = some l') (k : AS P ro n0 w0 ds ops Q C L fuel bl' l') :
    AS P ro n0 w0 ds ops Q C L (fuel + 1) bl l := fun u hu => by
  rw [← lset_of hb, ← lset_of hl] at k
  refine AH.first hi hcalm fuel _ _ u (Region.free_spec hi hf) (by simpa using hr) (v := v) (.inl ⟨by simp [Region.wanted, hg], ?_⟩) ?_
  · intro w hw; rw [eval_ev]; exact h w hw
  · rw [hd, put_some]
    have := k u hu
    simpa using this
theorem AS.takeG (i : Nat) {oi : Oper} {d : Nat} {v : Value} {g : Nat × Bool} {b : Bool} (hi : ops[i]? = some oi) (hcalm : allCalm ops = true) (hf : Region.free .any ops bl.toArray i = true) (hr : (Region.ready .any ops bl.toArray).contains i = true)
    (hd : oi.dst = some d) (hg : oi.guard = some g) (hw : (yielded ops l.toArray g.1 == some g.2) = b) (h : b = true → Det P C oi l v) (hb : lset bl i true = some bl') (hl : lset l d (cond b v undef) = some l') (k : AS P ro n0 w0 ds ops Q C L fuel bl' l') :
    AS P ro n0 w0 ds ops Q C L (fuel + 1) bl l := fun u hu => by
  rw [← lset_of hb, ← lset_of hl] at k
  have hw' : Region.wanted oi (yielded ops (Act.mk l.toArray ds).tmps) = b := by
    obtain ⟨j, want⟩ := g
    simp only [Region.wanted, hg]
    exact hw
  refine AH.first hi hcalm fuel _ _ u (Region.free_spec hi hf) (by simpa using hr) (v := cond b v undef) ?_ ?_
  · cases b with
    | true => exact .inl ⟨hw', fun w hC => by rw [eval_ev]; exact h rfl w hC⟩
    | false => exact .inr ⟨hw', rfl⟩
  · rw [hd, put_some]
    have := k u hu
    simpa using this
theorem AS.takeT (i : Nat) {oi : Oper} {d j : Nat} {v : Value} {b : Bool} (hi : ops[i]? = some oi) (hcalm : allCalm ops = true) (hf : Region.free .any ops bl.toArray i = true) (hr : (Region.ready .any ops bl.toArray).contains i = true)
    (hd : oi.dst = some d) (hg : oi.guard = some (j, true)) (hw : yielded ops l.toArray j = some b) (h : b = true → Det P C oi l v) (hb : lset bl i true = some bl') (hl : lset l d (cond b v undef) = some l') (k : AS P ro n0 w0 ds ops Q C L fuel bl' l') :
    AS P ro n0 w0 ds ops Q C L (fuel + 1) bl l := AS.takeG i hi hcalm hf hr hd hg (b := b) (by rw [hw]; cases b <;> rfl) h hb hl k
theorem AS.takeF (i : Nat) {oi : Oper} {d j : Nat} {v : Value} {b : Bool} (hi : ops[i]? = some oi) (hcalm : allCalm ops = true) (hf : Region.free .any ops bl.toArray i = true) (hr : (Region.ready .any ops bl.toArray).contains i = true)
    (hd : oi.dst = some d) (hg : oi.guard = some (j, false)) (hw : yielded ops l.toArray j = some b) (h : (!b) = true → Det P C oi l v) (hb : lset bl i true = some bl') (hl : lset l d (cond (!b) v undef) = some l') (k : AS P ro n0 w0 ds ops Q C L fuel bl' l') :
    AS P ro n0 w0 ds ops Q C L (fuel + 1) bl l := AS.takeG i hi hcalm hf hr hd hg (b := !b) (by rw [hw]; cases b <;> rfl) h hb hl k

theorem uponIn_then {o : Oper} {a : Act} {J K : Act → World → Prop} {r : Result Next} (h : o.uponIn (FW ro) 0 P a K (Exit.then J Q) r) : o.uponIn (FW ro) 0 P a K Q r := by
  cases r with
  | ok x w' => cases x <;> exact h
  | halt x w' => cases x <;> exact h

theorem opIn_of_WS {i : Nat} {o : Oper} {J : Act → World → Prop} {u : World} (hi : ops[i]? = some o) (h : wpListIn (FW ro) 0 P ops (Exit.then J Q) [o] ⟨l.toArray, ds⟩ u) : wpOpIn (FW ro) 0 P ops Q i J ⟨l.toArray, ds⟩ u := by
  unfold wpOpIn
  simp only [hi]
  unfold wpListIn at h
  split
  · rename_i hw
    rw [if_pos hw] at h
    exact ⟨h.1, uponIn_then (J := J) h.2⟩
  · rename_i hw
    rw [if_neg hw] at h
    exact h

theorem AS.one {i : Nat} {o : Oper} (hr : Region.ready .any ops bl.toArray = [i]) (hi : ops[i]? = some o) (hC : ∀ u, St n0 w0 L u → C u) (hb : lset bl i true = some bl')
    (h : WS P ro n0 w0 ds ops (Exit.then (AH P ro ops (NP Q) C fuel bl'.toArray) (NP Q)) L [o] l) : AS P ro n0 w0 ds ops Q C L (fuel + 1) bl l := fun u hu u' hu' => by
  have hst := hu.ext hu'
  refine ⟨hC _ hst, fun h0 => by rw [hr] at h0; simp at h0, fun j hj => ?_⟩
  rw [hr] at hj
  obtain rfl : j = i := by simpa using hj
  have := opIn_of_WS hi (h u' hst)
  rw [← lset_of hb] at this
  simpa using this
theorem AS.two {i j : Nat} {o p : Oper} {bi bj : List Bool} (hr : Region.ready .any ops bl.toArray = [i, j]) (hi : ops[i]? = some o) (hj : ops[j]? = some p) (hC : ∀ u, St n0 w0 L u → C u) (hbi : lset bl i true = some bi) (hbj : lset bl j true = some bj)
    (h1 : WS P ro n0 w0 ds ops (Exit.then (AH P ro ops (NP Q) C fuel bi.toArray) (NP Q)) L [o] l) (h2 : WS P ro n0 w0 ds ops (Exit.then (AH P ro ops (NP Q) C fuel bj.toArray) (NP Q)) L [p] l) :
    AS P ro n0 w0 ds ops Q C L (fuel + 1) bl l := fun u hu u' hu' => by
  have hst := hu.ext hu'
  refine ⟨hC _ hst, fun h0 => by rw [hr] at h0; simp at h0, fun k hk => ?_⟩
  rw [hr] at hk
  simp at hk
  rcases hk with rfl | rfl
  · have := opIn_of_WS hi (h1 u' hst)
    rw [← lset_of hbi] at this
    simpa using this
  · have := opIn_of_WS hj (h2 u' hst)
    rw [← lset_of hbj] at this
    simpa using this
theorem AS.done (hr : Region.ready .any ops bl.toArray = []) (hC : ∀ u, St n0 w0 L u → C u) (k : QS n0 w0 ds Q .normal L l) : AS P ro n0 w0 ds ops Q C L 0 bl l := fun u hu u' hu' =>
  ⟨hC _ (hu.ext hu'), hr, k u' (hu.ext hu')⟩
theorem QS.then_AS {fuel : Nat} (k : AS P ro n0 w0 ds ops Q C L fuel bl l) : QS n0 w0 ds (Exit.then (AH P ro ops (NP Q) C fuel bl.toArray) (NP Q)) .normal L l := fun u hu => k u hu

theorem Star.sub : ∀ {L L' : List SA} {S : Nat → Prop} {u : World}, L.Sublist L' → Star L' S u → Star L S u := by
  intro L L' S u h
  induction h generalizing S with
  | slnil => exact fun h => h
  | cons A h ih => rintro ⟨T, hT, hA, hL⟩; exact (ih hL).keep (fun _ _ _ h => h) fun _ h _ => h.1
  | cons_cons A h ih => rintro ⟨T, hT, hA, hL⟩; exact ⟨T, hT, hA, ih hL⟩
/-- A list without one place, asked so that 'rfl' lays it open. -/
def lera {α : Type} : List α → Nat → Option (List α)
  | [], _ => some []
  | _ :: l, 0 => some l
  | x :: l, n + 1 => match lera l n with
    | some r => some (x :: r)
    | none => none
theorem CS.drawnAll {id : Nat} {os : List Oper} {k : Nat} {bl : List Bool} (hm : P.follows .mixedOrders = true) (hk : os.length = k) (hb : List.replicate k false = bl) (h : AS P ro n0 w0 ds os.toArray Q (St n0 w0 L) L k bl l) :
    CS P ro n0 w0 ds (.region id os.toArray true) Q L l := by subst hb; exact CS.drawn _ hm hk h
/-- Part j is written in the region: nothing that is taken first reads it. -/
theorem CS.drawnBut (j : Nat) {L0 : List SA} {id : Nat} {os : List Oper} {k : Nat} {bl : List Bool} (hm : P.follows .mixedOrders = true) (hk : os.length = k) (hb : List.replicate k false = bl) (_hL : lera L j = some L0) (h : AS P ro n0 w0 ds os.toArray Q (St n0 w0 L0) L k bl l) :
    CS P ro n0 w0 ds (.region id os.toArray true) Q L l := by subst hb; exact CS.drawn _ hm hk h
theorem St.sub {L L' : List SA} {u : World} (h : L.Sublist L') (hu : St n0 w0 L' u) : St n0 w0 L u := ⟨hu.le, hu.below, hu.star.sub h⟩
end

end Go.Proofs.Ytldagbcceefcdaa

/- part Data -/
/- Slices of numbers as they read, and what reading them hands back. No program in sight. -/
namespace Go.Proofs.Ytldagbcceefcdaa
set_option linter.unusedVariables false
set_option linter.unusedSimpArgs false
open Go.RowKit

/-- v is a slice of numbers that reads xs. -/
def SlI (u : World) (v : Value) (xs : List Int) : Prop := SlC u v xs.length 1 (xs.map (Value.int .i64))
/-- What stands at a place. -/
def nth {α : Type} [Inhabited α] (xs : List α) (i : Int) : α := xs.getD i.toNat default

theorem SlI.ext {w u : World} {v : Value} {xs : List Int} (h : SlI w v xs) (hb : Below w.heap.size w u) : SlI u v xs := SlC.ext h hb
theorem SlI.le {u : World} {v : Value} {xs : List Int} (h : SlI u v xs) : xs.length ≤ 9223372036854775807 := SlC.le h
theorem SlI.st {w0 u : World} {L : List SA} {v : Value} {xs : List Int} (h : SlI w0 v xs) (hu : St w0.heap.size w0 L u) : SlI u v xs := h.ext hu.below

theorem nth_ext {xs ys : List Int} (hl : xs.length = ys.length) (h : ∀ i : Int, 0 ≤ i → i < xs.length → nth xs i = nth ys i) : xs = ys := by
  apply List.ext_getElem hl
  intro i h1 h2
  have := h i (by omega) (by omega)
  simpa [nth, List.getD, h1, h2] using this
theorem nth_mem {α : Type} [Inhabited α] {xs : List α} {i : Int} (h0 : 0 ≤ i) (h1 : i < xs.length) : nth xs i ∈ xs := by
  have : i.toNat < xs.length := by omega
  simp [nth, List.getD, this]
theorem nth_at {α : Type} [Inhabited α] {xs : List α} {i : Int} (h0 : 0 ≤ i) (h1 : i < xs.length) : xs[i.toNat]? = some (nth xs i) := by
  have : i.toNat < xs.length := by omega
  simp [nth, List.getD, this]
theorem mem_nth {α : Type} [Inhabited α] {xs : List α} {x : α} (h : x ∈ xs) : ∃ i : Int, 0 ≤ i ∧ i < xs.length ∧ nth xs i = x := by
  obtain ⟨n, hn, rfl⟩ := List.getElem_of_mem h
  exact ⟨n, by omega, by omega, by simp [nth, List.getD, hn]⟩
/-- The first place at which p holds; -1. -/
def idxF {α : Type} (p : α → Bool) (xs : List α) : Int := match xs.findIdx? p with | some i => i | none => -1
theorem idxF_found {α : Type} [Inhabited α] {p : α → Bool} {xs : List α} {s : Int} (h0 : 0 ≤ s) (h1 : s < xs.length) (hb : ∀ j : Int, 0 ≤ j → j < s → p (nth xs j) = false) (hp : p (nth xs s) = true) : idxF p xs = s := by
  have hlt : s.toNat < xs.length := by omega
  have : xs.findIdx? p = some s.toNat := by
    rw [List.findIdx?_eq_some_iff_getElem]
    refine ⟨hlt, by simpa [nth, List.getD, hlt] using hp, fun j hj => ?_⟩
    have := hb j (by omega) (by omega)
    have hj' : j < xs.length := by omega
    simpa [nth, List.getD, hj'] using this
  simp [idxF, this]; omega
theorem idxF_none {α : Type} [Inhabited α] {p : α → Bool} {xs : List α} (hb : ∀ j : Int, 0 ≤ j → j < xs.length → p (nth xs j) = false) : idxF p xs = -1 := by
  have : xs.findIdx? p = none := by
    rw [List.findIdx?_eq_none_iff]
    intro x hx
    obtain ⟨i, h0, h1, rfl⟩ := mem_nth hx
    exact hb i h0 h1
  simp [idxF, this]
theorem idxF_any {α : Type} {p : α → Bool} {xs : List α} : decide (0 ≤ idxF p xs) = xs.any p := by
  unfold idxF
  cases h : xs.findIdx? p with
  | none =>
    rw [List.findIdx?_eq_none_iff] at h
    have : xs.any p = false := by simpa using h
    simp [this]
  | some i =>
    rw [List.findIdx?_eq_some_iff_getElem] at h
    obtain ⟨h1, h2, _⟩ := h
    have : xs.any p = true := List.any_eq_true.2 ⟨_, List.getElem_mem h1, h2⟩
    simp [this]
theorem bool_t {p : Prop} [Decidable p] (h : p) : Value.bool true = .bool (decide p) := by simp [h]
theorem bool_f {p : Prop} [Decidable p] (h : ¬ p) : Value.bool false = .bool (decide p) := by simp [h]

section
variable {P : Program} {ro : Option Nat} {n0 : Nat} {w0 : World} {ds : List Deferred} {ops : Array Oper} {Q : Exit → Act → World → Prop} {L : List SA}
  {rest : List Oper} {l : List Value} {d : Option Tmp} {ty : TypeId} {ps : String} {af : Array Edge} {g : Option (Nat × Bool)} {C : World → Prop}

theorem det_idxI {T e : TypeId} {by_ : Nat} {x y : Operand} {v : Value} {i : Int} {w : World} {xs : List Int} (hT : sl P T = some (e, 1, by_)) (hx : evo l x = some v) (hy : evo l y = some (.int .i64 i))
    (hs : SlI w v xs) (h0 : 0 ≤ i) (h1 : i < xs.length) : Det P C ⟨d, .indexAddr T x y, ty, ps, af, g⟩ l (.pointer (some (sla v i.toNat))) := by
  have := det_indexS (P := P) (C := C) (d := d) (ty := ty) (ps := ps) (af := af) (g := g) hT hx hy hs h0 h1
  rwa [Nat.mul_one] at this
theorem nth_map {xs : List Int} {i : Int} (h : 0 ≤ i ∧ i < xs.length) : (xs.map (Value.int .i64))[i.toNat]? = some (.int .i64 (nth xs i)) := by
  have : i.toNat < xs.length := by omega
  simp [nth, List.getD, this]
theorem nth_one {α : Type} [Inhabited α] {xs : List α} {i : Int} (h : 0 ≤ i ∧ i < xs.length) : xs[i.toNat]? = some (nth xs i) := nth_at h.1 h.2
theorem det_ldI {T : TypeId} {x : Operand} {v : Value} {z : Nat} {xs : List Int} {i : Int} (hx : evo l x = some (.pointer (some (sla v i.toNat)))) (hs : SlI w0 v xs) (h : 0 ≤ i ∧ i < xs.length) (hT : tk P T = some (false, z)) :
    Det P (St w0.heap.size w0 L) ⟨d, .load T x, ty, ps, af, g⟩ l (.int .i64 (nth xs i)) :=
  det_loadS hx (fun _ hu => SlC.st hs hu) (nth_map h) hT

/-- A block that lay there when the walk began (a variable that is captured). -/
def BlkAt (u : World) (b : Nat) (c : List Value) (e : TypeId) : Prop := u.heap[b]? = some (.cells c.toArray e (0, 0))
theorem BlkAt.lt {u : World} {b : Nat} {c : List Value} {e : TypeId} (h : BlkAt u b c e) : b < u.heap.size := (Array.getElem?_eq_some_iff.1 h).1
theorem BlkAt.ext {w u : World} {b : Nat} {c : List Value} {e : TypeId} (h : BlkAt w b c e) (hb : Below w.heap.size w u) : BlkAt u b c e := (hb.block b h.lt).trans h
theorem BlkAt.st {u : World} {b : Nat} {c : List Value} {e : TypeId} (h : BlkAt w0 b c e) (hu : St w0.heap.size w0 L u) : BlkAt u b c e := h.ext hu.below
theorem st_blk {u : World} {b : Nat} {c : List Value} {e : TypeId} {j : Nat} (h : St n0 w0 L u) (hj : L[j]? = some (blk b c e)) : BlkAt u b c e := (h.blk hj).2
theorem det_loadw {T : TypeId} {x : Operand} {b i k : Nat} {c : List Value} {e : TypeId} {v : Value} (hx : evo l x = some (.pointer (some ⟨b, i, none⟩))) (hb : BlkAt w0 b c e) (hv : c[i]? = some v) (hT : tk P T = some (false, k)) :
    Det P (St w0.heap.size w0 L) ⟨d, .load T x, ty, ps, af, g⟩ l v := det_load hT hx fun _ hu => by rw [blk_cell (hb.st hu)]; exact hv
theorem det_loadwN {T : TypeId} {x : Operand} {b : Nat} {c : List Value} {e : TypeId} (hx : evo l x = some (.pointer (some ⟨b, 0, none⟩))) {n : Nat} (hb : BlkAt w0 b c e) (hn : c.length = n) (hT : tk P T = some (true, n)) :
    Det P (St w0.heap.size w0 L) ⟨d, .load T x, ty, ps, af, g⟩ l (.agg c.toArray) := det_loadN (hn ▸ hT) hx fun _ hu j v hj => by rw [Nat.zero_add, blk_cell (hb.st hu)]; exact hj

/-- A slice of slices of numbers. -/
structure SlL (u : World) (v : Value) (xss : List (List Int)) (gs : List Value) : Prop where
  sp : SlC u v xss.length 1 gs
  el : ∀ i : Int, 0 ≤ i → i < xss.length → SlI u (nth gs i) (nth xss i)
theorem SlL.ext {w u : World} {v : Value} {xss : List (List Int)} {gs : List Value} (h : SlL w v xss gs) (hb : Below w.heap.size w u) : SlL u v xss gs := ⟨h.sp.ext hb, fun i h0 h1 => (h.el i h0 h1).ext hb⟩
theorem SlL.st {u : World} {v : Value} {xss : List (List Int)} {gs : List Value} (h : SlL w0 v xss gs) (hu : St w0.heap.size w0 L u) : SlL u v xss gs := h.ext hu.below
theorem SlL.le {u : World} {v : Value} {xss : List (List Int)} {gs : List Value} (h : SlL u v xss gs) : xss.length ≤ 9223372036854775807 := h.sp.le
theorem det_idxL {T e : TypeId} {by_ : Nat} {x y : Operand} {v : Value} {i : Int} {w : World} {xss : List (List Int)} {gs : List Value} (hT : sl P T = some (e, 1, by_)) (hx : evo l x = some v) (hy : evo l y = some (.int .i64 i))
    (hs : SlL w v xss gs) (h0 : 0 ≤ i) (h1 : i < xss.length) : Det P C ⟨d, .indexAddr T x y, ty, ps, af, g⟩ l (.pointer (some (sla v i.toNat))) := by
  have := det_indexS (P := P) (C := C) (d := d) (ty := ty) (ps := ps) (af := af) (g := g) hT hx hy hs.sp h0 h1
  rwa [Nat.mul_one] at this
theorem det_ldL {T : TypeId} {x : Operand} {v : Value} {z : Nat} {xss : List (List Int)} {gs : List Value} {i : Int} (hx : evo l x = some (.pointer (some (sla v i.toNat)))) (hs : SlL w0 v xss gs) (h : 0 ≤ i ∧ i < xss.length) (hT : tk P T = some (false, z)) :
    Det P (St w0.heap.size w0 L) ⟨d, .load T x, ty, ps, af, g⟩ l (nth gs i) :=
  det_loadS hx (fun _ hu => hs.sp.st hu) (nth_one ⟨h.1, by have := hs.sp.len; omega⟩) hT
theorem SlL.two {u : World} {v v1 v2 : Value} {xs ys : List Int} (h : SlC u v 2 1 [v1, v2]) (h1 : SlI u v1 xs) (h2 : SlI u v2 ys) : SlL u v [xs, ys] [v1, v2] :=
  ⟨h, fun i h0 hi => by
    simp at hi
    rcases (by omega : i = 0 ∨ i = 1) with rfl | rfl
    · exact h1
    · exact h2⟩
theorem SlL.one {u : World} {v v1 : Value} {xs : List Int} (h : SlC u v 1 1 [v1]) (h1 : SlI u v1 xs) : SlL u v [xs] [v1] :=
  ⟨h, fun i h0 hi => by
    simp at hi
    obtain rfl : i = 0 := by omega
    exact h1⟩
end

end Go.Proofs.Ytldagbcceefcdaa

/- part More -/
/- More operations: structs that are built and stored whole, parts of slices. No program in sight. -/
namespace Go.Proofs.Ytldagbcceefcdaa
set_option linter.unusedVariables false
set_option linter.unusedSimpArgs false
open Go.RowKit

/-- Where a struct's fields lie and of how many cells each is. -/
def plc (P : Program) (T : TypeId) : Option (List (Nat × Nat)) :=
  match P.underlying T with
  | some (.struct fs) => fs.toList.mapM fun f => (P.info? f.type).map fun i => (f.offset, i.size)
  | _ => none
def bld (pls : List (Nat × Nat)) : List Value → List (Nat × Value) → Option (List Value)
  | z, [] => some z
  | z, (i, v) :: r => match pls[i]? with
    | some (o, 1) => if o < z.length then (match lset z o v with | some z' => bld pls z' r | none => none) else none
    | _ => none
def evp (l : List Value) : List (Nat × Operand) → Option (List (Nat × Value))
  | [] => some []
  | (i, x) :: r => match evo l x, evp l r with
    | some v, some vs => some ((i, v) :: vs)
    | _, _ => none
theorem evp_of {l : List Value} : ∀ {xs : List (Nat × Operand)} {vs : List (Nat × Value)}, evp l xs = some vs → xs.map (fun (i, x) => (i, ev l x)) = vs
  | [], vs, h => by simp [evp] at h; simp [h]
  | (i, x) :: xs, vs, h => by
    unfold evp at h
    split at h
    · rename_i v vs' h1 h2
      simp at h
      subst h
      have := evp_of h2
      simp at this
      simp [ev_of h1, this]
    · simp at h
theorem fill_bld (pls : List (Nat × Nat)) : ∀ (ps : List (Nat × Value)) (z cs : List Value), bld pls z ps = some cs → (∀ p ∈ ps, p.2.oneCell' = true) → Instr.fill (pls.toArray[·]?) z.toArray ps = some cs.toArray
  | [], z, cs, h, _ => by simp [bld] at h; subst h; simp [Instr.fill]
  | (i, v) :: ps, z, cs, h, h1 => by
    have hv : v.cells = #[v] := by have := h1 (i, v) (by simp); cases v <;> simp_all [Value.cells, Value.oneCell']
    unfold bld at h
    split at h
    · rename_i o ho
      split at h
      · rename_i hlt
        split at h
        · rename_i z' hz
          have := fill_bld pls ps z' cs h (fun p hp => h1 p (by simp [hp]))
          rw [← lset_of hz] at this
          simp only [Instr.fill, hv]
          simp [ho]
          exact ⟨by omega, by simpa using this⟩
        · simp at h
      · simp at h
    · simp at h

theorem mapM_run {P : Program} {w : World} : ∀ (fs : List Field) (r : List (Nat × Nat)), fs.mapM (fun f => (P.info? f.type).map fun i => (f.offset, i.size)) = some r →
    (fs.mapM fun f => do pure (f.offset, ← sizeOf f.type) : Sem (List (Nat × Nat))).run P w = .ok r w
  | [], r, h => by simp at h; subst h; simp
  | f :: fs, r, h => by
    simp only [List.mapM_cons] at h
    cases hi : P.info? f.type with
    | none => simp [hi] at h
    | some i =>
      cases hr : fs.mapM (fun f => (P.info? f.type).map fun i => (f.offset, i.size)) with
      | none => simp [hi, hr] at h
      | some r' =>
        simp [hi, hr] at h
        subst h
        have := mapM_run (w := w) fs r' hr
        simp only [List.mapM_cons]
        simp [sizeOf, typeInfo, hi] at this ⊢
        simp [this]

section
variable {P : Program} {ro : Option Nat} {n0 : Nat} {w0 : World} {ds : List Deferred} {ops : Array Oper} {Q : Exit → Act → World → Prop} {L : List SA}
  {rest : List Oper} {l : List Value} {d : Option Tmp} {ty : TypeId} {ps : String} {af : Array Edge} {g : Option (Nat × Bool)} {C : World → Prop}

theorem det_build1 {T : TypeId} {pl : List (Nat × Operand)} {pls : List (Nat × Nat)} {z cs : List Value} {parts : List (Nat × Value)} (hp : plc P T = some pls) (hz : zv P T = some z) (hv : evp l pl = some parts)
    (hb : bld pls z parts = some cs) (h1 : ∀ p ∈ parts, p.2.oneCell' = true) : Det P C ⟨d, .build T pl.toArray, ty, ps, af, g⟩ l (.agg cs.toArray) := fun u _ => by
  have hf := fill_bld pls parts z cs hb h1
  replace hv := evp_of hv
  subst hv
  unfold plc at hp
  split at hp
  · rename_i fs hu
    unfold zv at hz
    cases hi : P.info? T with
    | none => simp [hi] at hz
    | some inf =>
      cases hz2 : inf.zero with
      | none => simp [hi, hz2] at hz
      | some zz =>
        simp [hi, hz2] at hz
        have hm := mapM_run (P := P) (w := u) fs.toList pls hp
        have hm2 : (fs.mapM fun f => do pure (f.offset, ← sizeOf f.type) : Sem (Array (Nat × Nat))).run P u = .ok pls.toArray u := by
          rw [Array.mapM_eq_mapM_toList]
          simp at hm
          simp [hm]
        have hzc : zz.cells = z.toArray := by rw [← hz]
        simp [execOp, DetUpon, Instr.build, zeroValue, typeInfo, hi, hz2, run_underlying hu]
        simp at hm2
        simp [hm2, hzc]
        simp at hf
        simp [hf]
  · simp at hp

/-- A variable is stored whole. -/
theorem WS.storeW {T : TypeId} {x y : Operand} {b j : Nat} {c vs : List Value} {e : TypeId} (hx : evo l x = some (.pointer (some ⟨b, 0, none⟩))) (hj : L[j]? = some (blk b c e)) (hy : evo l y = some (.agg vs.toArray)) (hn : vs.length = c.length)
    (h1 : ∀ v ∈ vs, v.oneCell' = true) {n : Nat} (hT : tk P T = some (true, n)) (hnn : vs.length = n) {L' : List SA} (hL : lset L j (blk b vs e) = some L') (k : WS P ro n0 w0 ds ops Q L' rest l) :
    WS P ro n0 w0 ds ops Q L (⟨none, .store T x y, ty, ps, af, none⟩ :: rest) l := by
  subst hnn
  rw [← lset_of hL] at k
  replace hx := ev_of hx
  replace hy := ev_of hy
  refine WS.world_skip rfl rfl rfl fun u hu => ?_
  obtain ⟨S, hS, ⟨hS1, hb⟩, hupd⟩ := hu.upd hj
  have hst := run_storeCells_at P b 0 e vs 0 c.toArray u hb (by simp [hn]) h1
  refine ⟨u.setRow b vs.toArray, ?_, ?_⟩
  · simp only [Nat.add_zero] at hst
    have e2 : (c.toArray.toList.take 0 ++ vs ++ c.toArray.toList.drop (0 + vs.length)).toArray = vs.toArray := by simp [hn]
    rw [e2] at hst
    simp [execOp, hx, hy, Instr.storeAt, Instr.sureAddr, storeVar, (tk_spec hT u).2, Value.cells, hst]
  · refine k _ (hupd _ _ (fun k => k = b) ⟨rfl, rfl, rfl, by simp, fun k hk => setRow_other u b k _ (fun e => by have := hS b ((hS1 b).2 rfl); omega)⟩ (fun k hk o' hcell => ?_) ⟨fun k => Iff.rfl, ?_⟩ (fun k hk => by subst hk; exact ⟨hS _ ((hS1 _).2 rfl), .inl ((hS1 _).2 rfl)⟩))
    · rw [setRow_other u b k _ (fun e => hk.2.2 ((hS1 k).2 e))]; exact hcell
    · exact setRow_heap u b c.toArray vs.toArray e _ hb

/-- A part of a slice of numbers. -/
def subs : Value → Nat → Nat → Value
  | .slice p _ c, lo, hi => .slice (if c = lo then p else p.map (·.add lo)) (hi - lo) (c - lo)
  | v, _, _ => v
theorem SlI.sub {u : World} {v : Value} {xs : List Int} (h : SlI u v xs) {lo hi : Nat} (h0 : lo ≤ hi) (h1 : hi ≤ xs.length) : SlI u (subs v lo hi) ((xs.drop lo).take (hi - lo)) := by
  obtain ⟨hl, p, cap, rfl, hc, hp⟩ := h
  have e : ((xs.drop lo).take (hi - lo)).length = hi - lo := by simp; omega
  refine ⟨by simp, _, _, by rw [e]; rfl, by omega, ?_⟩
  rcases hp with hn | ⟨b, o, rfl, hcell⟩
  · left; omega
  · by_cases hcl : cap = lo
    · right
      refine ⟨b, o, by rw [if_pos hcl], fun m x hm => ?_⟩
      exfalso
      have : ((xs.drop lo).take (hi - lo)).length = 0 := by omega
      rw [List.length_eq_zero_iff.1 this] at hm
      simp at hm
    · right
      refine ⟨b, o + lo, by rw [if_neg hcl]; simp [addr_add], fun m x hm => ?_⟩
      rw [List.map_take, List.map_drop, List.getElem?_take] at hm
      split at hm
      · rw [List.getElem?_drop] at hm
        rw [Nat.add_assoc]
        exact hcell (lo + m) x hm
      · simp at hm
theorem det_subs {T e : TypeId} {by_ : Nat} {x y z : Operand} {v : Value} {xs : List Int} {lo hi : Int} {w : World} (hT : sl P T = some (e, 1, by_)) (hx : evo l x = some v) (hy : evo l y = some (.int .i64 lo)) (hz : evo l z = some (.int .i64 hi))
    (hs : SlI w v xs) (h0 : 0 ≤ lo) (h1 : lo ≤ hi) (h2 : hi ≤ xs.length) : Det P C ⟨d, .slice T x (some y) (some z) none, ty, ps, af, g⟩ l (subs v lo.toNat hi.toNat) := fun u _ => by
  obtain ⟨inf, hu, hi', hk, _⟩ := sl_spec hT
  obtain ⟨_, p, cap, rfl, hc, _⟩ := hs
  replace hx := ev_of hx
  replace hy := ev_of hy
  replace hz := ev_of hz
  have e1 : (0 ≤ hi ∧ hi ≤ (cap : Int)) := by omega
  have e2 : (0 ≤ lo ∧ lo ≤ ((hi.toNat : Nat) : Int)) := by omega
  have e3 : lo ≤ max hi 0 := by omega
  simp [execOp, DetUpon, hx, hy, hz, Instr.sliceAt, Instr.slice, Instr.sliceBounds, Instr.sliceBound, asIntOf, run_underlying hu, e1, e2, e3, sizeOf, typeInfo, hi', hk, subs]
end

end Go.Proofs.Ytldagbcceefcdaa

