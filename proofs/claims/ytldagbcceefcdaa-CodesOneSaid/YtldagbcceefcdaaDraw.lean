/- Regions that draw their order and that write or make memory: what only reads is taken first, what is left goes in its own order. No program in sight. -/
import Derived.Test.YtldagbcceefcdaaWalk
namespace Go.Proofs.Ytldagbcceefcdaa
set_option linter.unusedVariables false
set_option linter.unusedSimpArgs false
open Go.RowKit

section
variable {P : Program} {ro : Option Nat} {n0 : Nat} {w0 : World} {ds : List Deferred} {ops : Array Oper} {Q : Exit → Act → World → Prop} {L : List SA}
  {rest : List Oper} {l : List Value} {C : World → Prop}

/-- Whatever order is picked from here on, whatever lies behind; C holds all the time. -/
def AH (P : Program) (ro : Option Nat) (ops : Array Oper) (Q : Exit → Act → World → Prop) (C : World → Prop) : Nat → Array Bool → Act → World → Prop
  | 0, listed, a, w => ∀ u, Below w.heap.size w u → C u ∧ Region.ready .any ops listed = [] ∧ Q .normal a u
  | fuel + 1, listed, a, w => ∀ u, Below w.heap.size w u → C u ∧ (Region.ready .any ops listed = [] → Q .normal a u) ∧
      ∀ i ∈ Region.ready .any ops listed, wpOpIn (FW ro) 0 P ops Q i (AH P ro ops Q C fuel (listed.setIfInBounds i true)) a u

theorem below_trans {a b c : World} (h : Below a.heap.size a b) (k : Below b.heap.size b c) : Below a.heap.size a c := h.trans (k.mono h.size)

theorem AH.ext : ∀ {fuel : Nat} {listed : Array Bool} {a : Act} {w u : World}, AH P ro ops Q C fuel listed a w → Below w.heap.size w u → AH P ro ops Q C fuel listed a u
  | 0, _, _, _, _, h, hb => fun u' hb' => h u' (below_trans hb hb')
  | _ + 1, _, _, _, _, h, hb => fun u' hb' => h u' (below_trans hb hb')

theorem AH.any : ∀ {fuel : Nat} {listed : Array Bool} {a : Act} {w : World}, AH P ro ops Q C fuel listed a w → wpAnyIn (FW ro) 0 P .any ops Q fuel listed a w
  | 0, _, _, w, h => (h w (Below.refl _ _)).2
  | _ + 1, _, _, w, h => ⟨(h w (Below.refl _ _)).2.1, fun i hi => wpOpIn_mono (fun _ _ h => AH.any h) ((h w (Below.refl _ _)).2.2 i hi)⟩

/-- In frame a, in every world of C, operation o leaves v in its slot and turns nothing. -/
def Yc (P : Program) (ops : Array Oper) (C : World → Prop) (o : Oper) (v : Value) (a : Act) : Prop :=
  (Region.wanted o (yielded ops a.tmps) = true ∧ ∀ w, C w → DetUpon P w v ((execOp a.eval o).run P w)) ∨ (Region.wanted o (yielded ops a.tmps) = false ∧ v = undef)

theorem Yc.of_same {o : Oper} {v : Value} {a a' : Act} (hy : Yc P ops C o v a) (he : execOp a'.eval o = execOp a.eval o)
    (hw : Region.wanted o (yielded ops a'.tmps) = Region.wanted o (yielded ops a.tmps)) : Yc P ops C o v a' := by
  unfold Yc at *
  rw [he, hw]
  exact hy

theorem Yc.opIn {i : Nat} {o : Oper} {v : Value} {a : Act} {K : Act → World → Prop} {w : World} (hi : ops[i]? = some o) (hcalm : calm o.op = true) (hy : Yc P ops C o v a) (hC : C w)
    (hK : ∀ u, Below w.heap.size w u → K (a.put o.dst v) u) : wpOpIn (FW ro) 0 P ops Q i K a w := by
  unfold wpOpIn
  simp only [hi]
  rcases hy with ⟨hw, hv⟩ | ⟨hw, rfl⟩
  · rw [if_pos hw]
    refine ⟨fun _ _ => trivial, ?_⟩
    rw [semAt_calm hcalm]
    exact quiet_uponIn (hv w hC) hK
  · rw [if_neg (by simp [hw])]
    exact ⟨fun _ _ => trivial, hK w (Below.refl _ _)⟩

/-- Q, but nothing is let by at a panic. -/
def NP (Q : Exit → Act → World → Prop) : Exit → Act → World → Prop
  | .panic _, _, _ => False
  | e, a, w => Q e a w
theorem NP.normal {a : Act} {w : World} (h : Q .normal a w) : NP Q .normal a w := h
theorem NP.le : ∀ (e : Exit) (a : Act) (w : World), NP Q e a w → Q e a w := fun e a w h => by
  cases e <;> first | exact h | exact (h : False).elim

theorem wpOpIn_putC {j : Nat} {oi oj : Oper} {v : Value} (hj : ops[j]? = some oj) (hap : oi.apart ops oj = true) (hcalm : allCalm ops = true) (hci : calm oi.op = true)
    {K : Act → World → Prop} {a : Act} {w : World} (hy : Yc P ops C oi v a) (h : wpOpIn (FW ro) 0 P ops (NP Q) j K (a.put oi.dst v) w) :
    wpOpIn (FW ro) 0 P ops (NP Q) j (fun a' w' => Yc P ops C oi v a' ∧ K (a'.put oi.dst v) w') a w := by
  have hsi : ∀ cs b, oi.op ≠ .select cs b := fun cs b e => by rw [e] at hci; cases hci
  have hcj := allCalm_spec hcalm j oj hj
  have hsj : ∀ cs b, oj.op ≠ .select cs b := fun cs b e => by rw [e] at hcj; cases hcj
  obtain ⟨h1, h2, h3⟩ := Oper.apart_spec hap
  have keep : ∀ (a : Act), Yc P ops C oi v a → ∀ u, Yc P ops C oi v (a.put oj.dst u) := fun a hy u =>
    hy.of_same (execOp_put oi hsi a oj.dst u h3) (wanted_put oi a oj.dst u h3)
  have keepD : ∀ d, Yc P ops C oi v { a with defers := d :: a.defers } := fun d => hy.of_same rfl rfl
  unfold wpOpIn at *
  simp only [hj] at *
  rw [wanted_put oj a oi.dst v h1] at h
  split
  · rename_i hw
    simp only [hw, if_true] at h
    unfold Oper.wpIn at *
    refine ⟨fun _ _ => trivial, ?_⟩
    have h := h.2
    rw [semAt_calm hcj, execOp_put oj hsj a oi.dst v h1] at h
    rw [semAt_calm hcj]
    generalize (execOp a.eval oj).run P w = r at *
    cases r with
    | ok x w' =>
      cases x <;> simp only [Oper.uponIn] at h ⊢
      case value u => exact ⟨keep a hy u, by rw [← Act.put_comm a v u h2]; exact h⟩
      case skip => exact ⟨keep a hy _, by rw [← Act.put_comm a v undef h2]; exact h⟩
      case defer d =>
        refine ⟨keep _ (keepD d) _, ?_⟩
        rw [← Act.put_comm _ v undef h2, ← Act.put_defers]
        exact h
      case enter f args =>
        refine ⟨h.1, CallsIn.mono h.2 fun e w'' he => ?_⟩
        cases e with
        | returned u => exact ⟨keep a hy u, by rw [← Act.put_comm a v u h2]; exact he⟩
        | panicked c => exact he
        | outgrown => exact he
      case row row args => exact ⟨h.1, RowsIn.mono h.2 fun u w'' he => ⟨keep a hy u, by rw [← Act.put_comm a v u h2]; exact he⟩⟩
      case round l f tmps assign body =>
        refine ⟨h.1, RoundIn.mono h.2 fun e w'' he => ?_⟩
        cases e with
        | returned u => exact ⟨keep a hy u, by rw [← Act.put_comm a v u h2]; exact he⟩
        | panicked c => exact he
        | outgrown => exact he
    | halt x w' => cases x <;> simp only [Oper.uponIn] at h ⊢ <;> exact h
  · rename_i hw
    simp only [hw] at h
    exact ⟨fun _ _ => trivial, keep a hy _, by rw [← Act.put_comm a v undef h2]; exact h.2⟩

theorem AH.holds : ∀ {fuel : Nat} {listed : Array Bool} {a : Act} {w : World}, AH P ro ops Q C fuel listed a w → C w
  | 0, _, _, w, h => (h w (Below.refl _ _)).1
  | _ + 1, _, _, w, h => (h w (Below.refl _ _)).1

theorem AH.first {i : Nat} {oi : Oper} {v : Value} (hi : ops[i]? = some oi) (hcalm : allCalm ops = true) :
    ∀ (fuel : Nat) (listed : Array Bool) (a : Act) (w : World),
      (∀ j oj, ops[j]? = some oj → j ≠ i → listed.getD j true = false → (∀ e ∈ oj.after, Region.binds .any e = true → e.on ≠ i) → oi.apart ops oj = true) →
      i ∈ Region.ready .any ops listed → Yc P ops C oi v a →
      AH P ro ops (NP Q) C fuel (listed.setIfInBounds i true) (a.put oi.dst v) w → AH P ro ops (NP Q) C (fuel + 1) listed a w := by
  have hci := allCalm_spec hcalm i oi hi
  intro fuel
  induction fuel with
  | zero =>
    intro listed a w _ hr hy H u hu
    have Hu := H.ext hu
    refine ⟨Hu.holds, fun h => (by rw [h] at hr; cases hr), fun j hj => ?_⟩
    by_cases hji : j = i
    · subst hji; exact hy.opIn hi hci Hu.holds fun u' hu' => Hu.ext hu'
    · have := ready_mono hj hji
      rw [(H u hu).2.1] at this
      cases this
  | succ fuel ih =>
    intro listed a w hfree hr hy H u hu
    have Hu := H.ext hu
    refine ⟨Hu.holds, fun h => (by rw [h] at hr; cases hr), fun j hj => ?_⟩
    by_cases hji : j = i
    · subst hji; exact hy.opIn hi hci Hu.holds fun u' hu' => Hu.ext hu'
    · have h1 := (H u hu).2.2 j (ready_mono hj hji)
      obtain ⟨hjun, oj, hoj, hall⟩ := mem_ready.1 hj
      have hnot : ∀ e ∈ oj.after, Region.binds .any e = true → e.on ≠ i := fun e he hb heq => by
        have h1 := hall e he hb
        have h0 := (mem_ready.1 hr).1
        rw [heq] at h1
        rcases Nat.lt_or_ge i listed.size with h' | h'
        · simp [h'] at h0 h1; rw [h0] at h1; cases h1
        · simp [Array.getElem?_eq_none h'] at h1
      have h2 := wpOpIn_putC hoj (hfree j oj hoj hji hjun hnot) hcalm hci hy h1
      have hfree' : ∀ k ok, ops[k]? = some ok → k ≠ i → (listed.setIfInBounds j true).getD k true = false →
          (∀ e ∈ ok.after, Region.binds .any e = true → e.on ≠ i) → oi.apart ops ok = true := fun k ok hk hki hun hno => by
        refine hfree k ok hk hki ?_ hno
        by_cases hjk : j = k
        · subst hjk; exact hjun
        · rw [getD_set_ne true hjk] at hun; exact hun
      refine wpOpIn_mono (fun a' w' h3 => ih (listed.setIfInBounds j true) a' w' hfree' (ready_mono hr (Ne.symm hji)) h3.1 ?_) h2
      rw [Array.setIfInBounds_comm _ _ hji]
      exact h3.2

/-- What is left of the region, the operations of bl being over. -/
def AS (P : Program) (ro : Option Nat) (n0 : Nat) (w0 : World) (ds : List Deferred) (ops : Array Oper) (Q : Exit → Act → World → Prop) (C : World → Prop) (L : List SA) (fuel : Nat) (bl : List Bool) (l : List Value) : Prop :=
  ∀ u, St n0 w0 L u → AH P ro ops (NP Q) C fuel bl.toArray ⟨l.toArray, ds⟩ u

variable {bl bl' : List Bool} {fuel : Nat} {l' : List Value}

theorem CS.drawn {id : Nat} {os : List Oper} {k : Nat} (C : World → Prop) (hm : P.follows .mixedOrders = true) (hk : os.length = k) (h : AS P ro n0 w0 ds os.toArray Q C L k (List.replicate k false) l) :
    CS P ro n0 w0 ds (.region id os.toArray true) Q L l := fun u hu => by
  subst hk
  refine Go.wpIn_mono (wpIn_region_any hm ?_) (fun e a w => NP.le e a w)
  have := (h _ hu.drew).any
  simpa using this

theorem AS.take (i : Nat) {oi : Oper} {d : Nat} {v : Value} (hi : ops[i]? = some oi) (hcalm : allCalm ops = true) (hf : Region.free .any ops bl.toArray i = true) (hr : (Region.ready .any ops bl.toArray).contains i = true)
    (hd : oi.dst = some d) (hg : oi.guard = none) (h : Det P C oi l v) (hb : lset bl i true = some bl') (hl : lset l d v = some l') (k : AS P ro n0 w0 ds ops Q C L fuel bl' l') :
    AS P ro n0 w0 ds ops Q C L (fuel + 1) bl l := fun u hu => by
  rw [← lset_of hb, ← lset_of hl] at k
  refine AH.first hi hcalm fuel _ _ u (Region.free_spec hi hf) (by simpa using hr) (v := v) (.inl ⟨by simp [Region.wanted, hg], ?_⟩) ?_
  · intro w hw; rw [eval_ev]; exact h w hw
  · rw [hd, put_some]
    have := k u hu
    simpa using this
theorem AS.takeG (i : Nat) {oi : Oper} {d : Nat} {v : Value} {g : Nat × Bool} {b : Bool} (hi : ops[i]? = some oi) (hcalm : allCalm ops = true) (hf : Region.free .any ops bl.toArray i = true) (hr : (Region.ready .any ops bl.toArray).contains i = true)
    (hd : oi.dst = some d) (hg : oi.guard = some g) (hw : (yielded ops l.toArray g.1 == some g.2) = b) (h : b = true → Det P C oi l v) (hb : lset bl i true = some bl') (hl : lset l d (cond b v undef) = some l') (k : AS P ro n0 w0 ds ops Q C L fuel bl' l') :
    AS P ro n0 w0 ds ops Q C L (fuel + 1) bl l := fun u hu => by
  rw [← lset_of hb, ← lset_of hl] at k
  have hw' : Region.wanted oi (yielded ops (Act.mk l.toArray ds).tmps) = b := by
    obtain ⟨j, want⟩ := g
    simp only [Region.wanted, hg]
    exact hw
  refine AH.first hi hcalm fuel _ _ u (Region.free_spec hi hf) (by simpa using hr) (v := cond b v undef) ?_ ?_
  · cases b with
    | true => exact .inl ⟨hw', fun w hC => by rw [eval_ev]; exact h rfl w hC⟩
    | false => exact .inr ⟨hw', rfl⟩
  · rw [hd, put_some]
    have := k u hu
    simpa using this
theorem AS.takeT (i : Nat) {oi : Oper} {d j : Nat} {v : Value} {b : Bool} (hi : ops[i]? = some oi) (hcalm : allCalm ops = true) (hf : Region.free .any ops bl.toArray i = true) (hr : (Region.ready .any ops bl.toArray).contains i = true)
    (hd : oi.dst = some d) (hg : oi.guard = some (j, true)) (hw : yielded ops l.toArray j = some b) (h : b = true → Det P C oi l v) (hb : lset bl i true = some bl') (hl : lset l d (cond b v undef) = some l') (k : AS P ro n0 w0 ds ops Q C L fuel bl' l') :
    AS P ro n0 w0 ds ops Q C L (fuel + 1) bl l := AS.takeG i hi hcalm hf hr hd hg (b := b) (by rw [hw]; cases b <;> rfl) h hb hl k
theorem AS.takeF (i : Nat) {oi : Oper} {d j : Nat} {v : Value} {b : Bool} (hi : ops[i]? = some oi) (hcalm : allCalm ops = true) (hf : Region.free .any ops bl.toArray i = true) (hr : (Region.ready .any ops bl.toArray).contains i = true)
    (hd : oi.dst = some d) (hg : oi.guard = some (j, false)) (hw : yielded ops l.toArray j = some b) (h : (!b) = true → Det P C oi l v) (hb : lset bl i true = some bl') (hl : lset l d (cond (!b) v undef) = some l') (k : AS P ro n0 w0 ds ops Q C L fuel bl' l') :
    AS P ro n0 w0 ds ops Q C L (fuel + 1) bl l := AS.takeG i hi hcalm hf hr hd hg (b := !b) (by rw [hw]; cases b <;> rfl) h hb hl k

theorem uponIn_then {o : Oper} {a : Act} {J K : Act → World → Prop} {r : Result Next} (h : o.uponIn (FW ro) 0 P a K (Exit.then J Q) r) : o.uponIn (FW ro) 0 P a K Q r := by
  cases r with
  | ok x w' => cases x <;> exact h
  | halt x w' => cases x <;> exact h

theorem opIn_of_WS {i : Nat} {o : Oper} {J : Act → World → Prop} {u : World} (hi : ops[i]? = some o) (h : wpListIn (FW ro) 0 P ops (Exit.then J Q) [o] ⟨l.toArray, ds⟩ u) : wpOpIn (FW ro) 0 P ops Q i J ⟨l.toArray, ds⟩ u := by
  unfold wpOpIn
  simp only [hi]
  unfold wpListIn at h
  split
  · rename_i hw
    rw [if_pos hw] at h
    exact ⟨h.1, uponIn_then (J := J) h.2⟩
  · rename_i hw
    rw [if_neg hw] at h
    exact h

theorem AS.one {i : Nat} {o : Oper} (hr : Region.ready .any ops bl.toArray = [i]) (hi : ops[i]? = some o) (hC : ∀ u, St n0 w0 L u → C u) (hb : lset bl i true = some bl')
    (h : WS P ro n0 w0 ds ops (Exit.then (AH P ro ops (NP Q) C fuel bl'.toArray) (NP Q)) L [o] l) : AS P ro n0 w0 ds ops Q C L (fuel + 1) bl l := fun u hu u' hu' => by
  have hst := hu.ext hu'
  refine ⟨hC _ hst, fun h0 => by rw [hr] at h0; simp at h0, fun j hj => ?_⟩
  rw [hr] at hj
  obtain rfl : j = i := by simpa using hj
  have := opIn_of_WS hi (h u' hst)
  rw [← lset_of hb] at this
  simpa using this
theorem AS.two {i j : Nat} {o p : Oper} {bi bj : List Bool} (hr : Region.ready .any ops bl.toArray = [i, j]) (hi : ops[i]? = some o) (hj : ops[j]? = some p) (hC : ∀ u, St n0 w0 L u → C u) (hbi : lset bl i true = some bi) (hbj : lset bl j true = some bj)
    (h1 : WS P ro n0 w0 ds ops (Exit.then (AH P ro ops (NP Q) C fuel bi.toArray) (NP Q)) L [o] l) (h2 : WS P ro n0 w0 ds ops (Exit.then (AH P ro ops (NP Q) C fuel bj.toArray) (NP Q)) L [p] l) :
    AS P ro n0 w0 ds ops Q C L (fuel + 1) bl l := fun u hu u' hu' => by
  have hst := hu.ext hu'
  refine ⟨hC _ hst, fun h0 => by rw [hr] at h0; simp at h0, fun k hk => ?_⟩
  rw [hr] at hk
  simp at hk
  rcases hk with rfl | rfl
  · have := opIn_of_WS hi (h1 u' hst)
    rw [← lset_of hbi] at this
    simpa using this
  · have := opIn_of_WS hj (h2 u' hst)
    rw [← lset_of hbj] at this
    simpa using this
theorem AS.done (hr : Region.ready .any ops bl.toArray = []) (hC : ∀ u, St n0 w0 L u → C u) (k : QS n0 w0 ds Q .normal L l) : AS P ro n0 w0 ds ops Q C L 0 bl l := fun u hu u' hu' =>
  ⟨hC _ (hu.ext hu'), hr, k u' (hu.ext hu')⟩
theorem QS.then_AS {fuel : Nat} (k : AS P ro n0 w0 ds ops Q C L fuel bl l) : QS n0 w0 ds (Exit.then (AH P ro ops (NP Q) C fuel bl.toArray) (NP Q)) .normal L l := fun u hu => k u hu

theorem Star.sub : ∀ {L L' : List SA} {S : Nat → Prop} {u : World}, L.Sublist L' → Star L' S u → Star L S u := by
  intro L L' S u h
  induction h generalizing S with
  | slnil => exact fun h => h
  | cons A h ih => rintro ⟨T, hT, hA, hL⟩; exact (ih hL).keep (fun _ _ _ h => h) fun _ h _ => h.1
  | cons_cons A h ih => rintro ⟨T, hT, hA, hL⟩; exact ⟨T, hT, hA, ih hL⟩
/-- A list without one place, asked so that 'rfl' lays it open. -/
def lera {α : Type} : List α → Nat → Option (List α)
  | [], _ => some []
  | _ :: l, 0 => some l
  | x :: l, n + 1 => match lera l n with
    | some r => some (x :: r)
    | none => none
theorem CS.drawnAll {id : Nat} {os : List Oper} {k : Nat} {bl : List Bool} (hm : P.follows .mixedOrders = true) (hk : os.length = k) (hb : List.replicate k false = bl) (h : AS P ro n0 w0 ds os.toArray Q (St n0 w0 L) L k bl l) :
    CS P ro n0 w0 ds (.region id os.toArray true) Q L l := by subst hb; exact CS.drawn _ hm hk h
/-- Part j is written in the region: nothing that is taken first reads it. -/
theorem CS.drawnBut (j : Nat) {L0 : List SA} {id : Nat} {os : List Oper} {k : Nat} {bl : List Bool} (hm : P.follows .mixedOrders = true) (hk : os.length = k) (hb : List.replicate k false = bl) (_hL : lera L j = some L0) (h : AS P ro n0 w0 ds os.toArray Q (St n0 w0 L0) L k bl l) :
    CS P ro n0 w0 ds (.region id os.toArray true) Q L l := by subst hb; exact CS.drawn _ hm hk h
theorem St.sub {L L' : List SA} {u : World} (h : L.Sublist L') (hu : St n0 w0 L' u) : St n0 w0 L u := ⟨hu.le, hu.below, hu.star.sub h⟩
end

end Go.Proofs.Ytldagbcceefcdaa
