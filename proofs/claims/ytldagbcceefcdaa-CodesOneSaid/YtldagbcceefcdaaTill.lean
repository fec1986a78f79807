/- Regions that draw their order and write: up to the first writing operation s what only reads is taken first. No program in sight. -/
import Derived.Test.YtldagbcceefcdaaRo
namespace Go.Proofs.Ytldagbcceefcdaa
set_option linter.unusedVariables false
set_option linter.unusedSimpArgs false
open Go.RowKit

section
variable {P : Program} {ro : Option Nat} {n0 : Nat} {w0 : World} {ds : List Deferred} {ops : Array Oper} {Q : Exit → Act → World → Prop} {L : List SA}
  {rest : List Oper} {l : List Value} {C : World → Prop} {s : Nat}

/-- Operation i comes before s in each order. -/
def isAnc (ops : Array Oper) : Nat → Nat → Nat → Bool
  | 0, _, _ => false
  | n + 1, i, s => match ops[s]? with
    | some o => o.after.toList.any fun e => Region.binds .any e && (e.on == i || isAnc ops n i e.on)
    | none => false
/-- What is over has behind it all that it waits for. -/
def Closed (ops : Array Oper) (listed : Array Bool) : Prop := ∀ k o, ops[k]? = some o → listed.getD k true = true → ∀ e ∈ o.after, Region.binds .any e = true → listed.getD e.on true = true
theorem anc_closed {listed : Array Bool} (hc : Closed ops listed) : ∀ (n : Nat) {i s : Nat}, isAnc ops n i s = true → listed.getD s true = true → listed.getD i true = true
  | 0, _, _, h, _ => by simp [isAnc] at h
  | n + 1, i, s, h, hs => by
    unfold isAnc at h
    split at h
    · rename_i o ho
      rw [List.any_eq_true] at h
      obtain ⟨e, he, hb⟩ := h
      simp only [Bool.and_eq_true, Bool.or_eq_true, beq_iff_eq] at hb
      have h1 := hc s o ho hs e (by simpa using he) hb.1
      rcases hb.2 with rfl | h2
      · exact h1
      · exact anc_closed hc n h2 h1
    · simp at h
def closedB (ops : Array Oper) (listed : Array Bool) : Bool := ops.toList.zipIdx.all fun (o, k) => !(listed.getD k true) || o.after.toList.all fun e => !(Region.binds .any e) || listed.getD e.on true
theorem closedB_spec {listed : Array Bool} (h : closedB ops listed = true) : Closed ops listed := by
  intro k o ho hk e he hb
  unfold closedB at h
  rw [List.all_eq_true] at h
  have h1 := h (o, k) (by
    rw [List.mem_zipIdx_iff_getElem?]
    simpa using ho)
  simp only [hk, Bool.not_true, Bool.false_or, List.all_eq_true] at h1
  have h2 := h1 e (by simpa using he)
  simpa [hb] using h2
theorem Closed.step {listed : Array Bool} {j : Nat} (hc : Closed ops listed) (hj : j ∈ Region.ready .any ops listed) : Closed ops (listed.setIfInBounds j true) := by
  obtain ⟨hjun, oj, hoj, hall⟩ := mem_ready.1 hj
  have up : ∀ k, listed.getD k true = true → (listed.setIfInBounds j true).getD k true = true := fun k hk => by
    by_cases h : j = k
    · subst h
      rw [hk] at hjun; cases hjun
    · rw [getD_set_ne true h]; exact hk
  intro k o ho hk e he hb
  refine up _ ?_
  by_cases h : j = k
  · subst h
    rw [hoj] at ho
    injection ho with ho
    subst ho
    have h1 := hall e he hb
    rcases Nat.lt_or_ge e.on listed.size with h' | h'
    · simp [h'] at h1 ⊢; exact h1
    · simp [Array.getElem?_eq_none h'] at h1
  · rw [getD_set_ne true h] at hk
    exact hc k o ho hk e he hb

/-- Whatever order is picked from here on, whatever lies behind; C holds as long as s is not over. -/
def AZ (P : Program) (ro : Option Nat) (ops : Array Oper) (Q : Exit → Act → World → Prop) (C : World → Prop) (s : Nat) : Nat → Array Bool → Act → World → Prop
  | 0, listed, a, w => ∀ u, Below w.heap.size w u → (listed.getD s true = false → C u) ∧ Region.ready .any ops listed = [] ∧ Q .normal a u
  | fuel + 1, listed, a, w => ∀ u, Below w.heap.size w u → (listed.getD s true = false → C u) ∧ (Region.ready .any ops listed = [] → Q .normal a u) ∧
      ∀ i ∈ Region.ready .any ops listed, wpOpIn (FW ro) 0 P ops Q i (AZ P ro ops Q C s fuel (listed.setIfInBounds i true)) a u

theorem AZ.ext : ∀ {fuel : Nat} {listed : Array Bool} {a : Act} {w u : World}, AZ P ro ops Q C s fuel listed a w → Below w.heap.size w u → AZ P ro ops Q C s fuel listed a u
  | 0, _, _, _, _, h, hb => fun u' hb' => h u' (below_trans hb hb')
  | _ + 1, _, _, _, _, h, hb => fun u' hb' => h u' (below_trans hb hb')
theorem AZ.any : ∀ {fuel : Nat} {listed : Array Bool} {a : Act} {w : World}, AZ P ro ops Q C s fuel listed a w → wpAnyIn (FW ro) 0 P .any ops Q fuel listed a w
  | 0, _, _, w, h => (h w (Below.refl _ _)).2
  | _ + 1, _, _, w, h => ⟨(h w (Below.refl _ _)).2.1, fun i hi => wpOpIn_mono (fun _ _ h => AZ.any h) ((h w (Below.refl _ _)).2.2 i hi)⟩
theorem AZ.holds : ∀ {fuel : Nat} {listed : Array Bool} {a : Act} {w : World}, AZ P ro ops Q C s fuel listed a w → listed.getD s true = false → C w
  | 0, _, _, w, h => (h w (Below.refl _ _)).1
  | _ + 1, _, _, w, h => (h w (Below.refl _ _)).1

theorem AZ.first {i : Nat} {oi : Oper} {v : Value} (hi : ops[i]? = some oi) (hcalm : allCalm ops = true) {na : Nat} (ha : isAnc ops na i s = true) (his : (i == s) = false) :
    ∀ (fuel : Nat) (listed : Array Bool) (a : Act) (w : World),
      (∀ j oj, ops[j]? = some oj → j ≠ i → listed.getD j true = false → (∀ e ∈ oj.after, Region.binds .any e = true → e.on ≠ i) → oi.apart ops oj = true) →
      i ∈ Region.ready .any ops listed → Closed ops listed → Yc P ops C oi v a →
      AZ P ro ops (NP Q) C s fuel (listed.setIfInBounds i true) (a.put oi.dst v) w → AZ P ro ops (NP Q) C s (fuel + 1) listed a w := by
  have hci := allCalm_spec hcalm i oi hi
  intro fuel
  induction fuel with
  | zero =>
    intro listed a w _ hr hcl hy H u hu
    have Hu := H.ext hu
    have hiun := (mem_ready.1 hr).1
    have hsun : listed.getD s true = false := by
      rcases Bool.eq_false_or_eq_true (listed.getD s true) with h | h
      · have := anc_closed hcl na ha h; rw [this] at hiun; cases hiun
      · exact h
    have hsun' : (listed.setIfInBounds i true).getD s true = false := by rw [getD_set_ne true (by simpa using his)]; exact hsun
    refine ⟨fun _ => Hu.holds hsun', fun h => (by rw [h] at hr; cases hr), fun j hj => ?_⟩
    by_cases hji : j = i
    · subst hji; exact hy.opIn hi hci (Hu.holds hsun') fun u' hu' => Hu.ext hu'
    · have := ready_mono hj hji
      rw [(H u hu).2.1] at this
      cases this
  | succ fuel ih =>
    intro listed a w hfree hr hcl hy H u hu
    have Hu := H.ext hu
    have hiun := (mem_ready.1 hr).1
    have hsun : listed.getD s true = false := by
      rcases Bool.eq_false_or_eq_true (listed.getD s true) with h | h
      · have := anc_closed hcl na ha h; rw [this] at hiun; cases hiun
      · exact h
    have hsun' : (listed.setIfInBounds i true).getD s true = false := by rw [getD_set_ne true (by simpa using his)]; exact hsun
    refine ⟨fun _ => Hu.holds hsun', fun h => (by rw [h] at hr; cases hr), fun j hj => ?_⟩
    by_cases hji : j = i
    · subst hji; exact hy.opIn hi hci (Hu.holds hsun') fun u' hu' => Hu.ext hu'
    · have h1 := (H u hu).2.2 j (ready_mono hj hji)
      obtain ⟨hjun, oj, hoj, hall⟩ := mem_ready.1 hj
      have hnot : ∀ e ∈ oj.after, Region.binds .any e = true → e.on ≠ i := fun e he hb heq => by
        have h1 := hall e he hb
        have h0 := (mem_ready.1 hr).1
        rw [heq] at h1
        rcases Nat.lt_or_ge i listed.size with h' | h'
        · simp [h'] at h0 h1; rw [h0] at h1; cases h1
        · simp [Array.getElem?_eq_none h'] at h1
      have h2 := wpOpIn_putC hoj (hfree j oj hoj hji hjun hnot) hcalm hci hy h1
      have hfree' : ∀ k ok, ops[k]? = some ok → k ≠ i → (listed.setIfInBounds j true).getD k true = false →
          (∀ e ∈ ok.after, Region.binds .any e = true → e.on ≠ i) → oi.apart ops ok = true := fun k ok hk hki hun hno => by
        refine hfree k ok hk hki ?_ hno
        by_cases hjk : j = k
        · subst hjk; exact hjun
        · rw [getD_set_ne true hjk] at hun; exact hun
      refine wpOpIn_mono (fun a' w' h3 => ih (listed.setIfInBounds j true) a' w' hfree' (ready_mono hr (Ne.symm hji)) (hcl.step hj) h3.1 ?_) h2
      rw [Array.setIfInBounds_comm _ _ hji]
      exact h3.2

/-- What is left of the region, the operations of bl being over. -/
def AT (P : Program) (ro : Option Nat) (n0 : Nat) (w0 : World) (ds : List Deferred) (ops : Array Oper) (Q : Exit → Act → World → Prop) (C : World → Prop) (s : Nat) (L : List SA) (fuel : Nat) (bl : List Bool) (l : List Value) : Prop :=
  ∀ u, St n0 w0 L u → AZ P ro ops (NP Q) C s fuel bl.toArray ⟨l.toArray, ds⟩ u

variable {bl bl' : List Bool} {fuel : Nat} {l' : List Value}

theorem CS.drawnZ {id : Nat} {os : List Oper} {k : Nat} (s : Nat) (C : World → Prop) (hm : P.follows .mixedOrders = true) (hk : os.length = k) (h : AT P ro n0 w0 ds os.toArray Q C s L k (List.replicate k false) l) :
    CS P ro n0 w0 ds (.region id os.toArray true) Q L l := fun u hu => by
  subst hk
  refine Go.wpIn_mono (wpIn_region_any hm ?_) (fun e a w => NP.le e a w)
  have := (h _ hu.drew).any
  simpa using this

theorem AT.take (i : Nat) {oi : Oper} {d : Nat} {v : Value} (hi : ops[i]? = some oi) (hcalm : allCalm ops = true) {na : Nat} (ha : isAnc ops na i s = true) (his : (i == s) = false) (hcl : closedB ops bl.toArray = true) (hf : Region.free .any ops bl.toArray i = true) (hr : (Region.ready .any ops bl.toArray).contains i = true)
    (hd : oi.dst = some d) (hg : oi.guard = none) (h : Det P C oi l v) (hb : lset bl i true = some bl') (hl : lset l d v = some l') (k : AT P ro n0 w0 ds ops Q C s L fuel bl' l') :
    AT P ro n0 w0 ds ops Q C s L (fuel + 1) bl l := fun u hu => by
  rw [← lset_of hb, ← lset_of hl] at k
  refine AZ.first hi hcalm ha his fuel _ _ u (Region.free_spec hi hf) (by simpa using hr) (closedB_spec hcl) (v := v) (.inl ⟨by simp [Region.wanted, hg], ?_⟩) ?_
  · intro w hw; rw [eval_ev]; exact h w hw
  · rw [hd, put_some]
    have := k u hu
    simpa using this
theorem AT.takeG (i : Nat) {oi : Oper} {d : Nat} {v : Value} {g : Nat × Bool} {b : Bool} (hi : ops[i]? = some oi) (hcalm : allCalm ops = true) {na : Nat} (ha : isAnc ops na i s = true) (his : (i == s) = false) (hcl : closedB ops bl.toArray = true) (hf : Region.free .any ops bl.toArray i = true) (hr : (Region.ready .any ops bl.toArray).contains i = true)
    (hd : oi.dst = some d) (hg : oi.guard = some g) (hw : (yielded ops l.toArray g.1 == some g.2) = b) (h : b = true → Det P C oi l v) (hb : lset bl i true = some bl') (hl : lset l d (cond b v undef) = some l') (k : AT P ro n0 w0 ds ops Q C s L fuel bl' l') :
    AT P ro n0 w0 ds ops Q C s L (fuel + 1) bl l := fun u hu => by
  rw [← lset_of hb, ← lset_of hl] at k
  have hw' : Region.wanted oi (yielded ops (Act.mk l.toArray ds).tmps) = b := by
    obtain ⟨j, want⟩ := g
    simp only [Region.wanted, hg]
    exact hw
  refine AZ.first hi hcalm ha his fuel _ _ u (Region.free_spec hi hf) (by simpa using hr) (closedB_spec hcl) (v := cond b v undef) ?_ ?_
  · cases b with
    | true => exact .inl ⟨hw', fun w hC => by rw [eval_ev]; exact h rfl w hC⟩
    | false => exact .inr ⟨hw', rfl⟩
  · rw [hd, put_some]
    have := k u hu
    simpa using this
theorem AT.takeT (i : Nat) {oi : Oper} {d j : Nat} {v : Value} {b : Bool} (hi : ops[i]? = some oi) (hcalm : allCalm ops = true) {na : Nat} (ha : isAnc ops na i s = true) (his : (i == s) = false) (hcl : closedB ops bl.toArray = true) (hf : Region.free .any ops bl.toArray i = true) (hr : (Region.ready .any ops bl.toArray).contains i = true)
    (hd : oi.dst = some d) (hg : oi.guard = some (j, true)) (hw : yielded ops l.toArray j = some b) (h : b = true → Det P C oi l v) (hb : lset bl i true = some bl') (hl : lset l d (cond b v undef) = some l') (k : AT P ro n0 w0 ds ops Q C s L fuel bl' l') :
    AT P ro n0 w0 ds ops Q C s L (fuel + 1) bl l := AT.takeG i hi hcalm ha his hcl hf hr hd hg (b := b) (by rw [hw]; cases b <;> rfl) h hb hl k
theorem AT.takeF (i : Nat) {oi : Oper} {d j : Nat} {v : Value} {b : Bool} (hi : ops[i]? = some oi) (hcalm : allCalm ops = true) {na : Nat} (ha : isAnc ops na i s = true) (his : (i == s) = false) (hcl : closedB ops bl.toArray = true) (hf : Region.free .any ops bl.toArray i = true) (hr : (Region.ready .any ops bl.toArray).contains i = true)
    (hd : oi.dst = some d) (hg : oi.guard = some (j, false)) (hw : yielded ops l.toArray j = some b) (h : (!b) = true → Det P C oi l v) (hb : lset bl i true = some bl') (hl : lset l d (cond (!b) v undef) = some l') (k : AT P ro n0 w0 ds ops Q C s L fuel bl' l') :
    AT P ro n0 w0 ds ops Q C s L (fuel + 1) bl l := AT.takeG i hi hcalm ha his hcl hf hr hd hg (b := !b) (by rw [hw]; cases b <;> rfl) h hb hl k

theorem AT.one {i : Nat} {o : Oper} (hr : Region.ready .any ops bl.toArray = [i]) (hi : ops[i]? = some o) (hC : bl.toArray.getD s true = false → ∀ u, St n0 w0 L u → C u) (hb : lset bl i true = some bl')
    (h : WS P ro n0 w0 ds ops (Exit.then (AZ P ro ops (NP Q) C s fuel bl'.toArray) (NP Q)) L [o] l) : AT P ro n0 w0 ds ops Q C s L (fuel + 1) bl l := fun u hu u' hu' => by
  have hst := hu.ext hu'
  refine ⟨fun h => hC h _ hst, fun h0 => by rw [hr] at h0; simp at h0, fun j hj => ?_⟩
  rw [hr] at hj
  obtain rfl : j = i := by simpa using hj
  have := opIn_of_WS hi (h u' hst)
  rw [← lset_of hb] at this
  simpa using this
theorem AT.two {i j : Nat} {o p : Oper} {bi bj : List Bool} (hr : Region.ready .any ops bl.toArray = [i, j]) (hi : ops[i]? = some o) (hj : ops[j]? = some p) (hC : bl.toArray.getD s true = false → ∀ u, St n0 w0 L u → C u) (hbi : lset bl i true = some bi) (hbj : lset bl j true = some bj)
    (h1 : WS P ro n0 w0 ds ops (Exit.then (AZ P ro ops (NP Q) C s fuel bi.toArray) (NP Q)) L [o] l) (h2 : WS P ro n0 w0 ds ops (Exit.then (AZ P ro ops (NP Q) C s fuel bj.toArray) (NP Q)) L [p] l) :
    AT P ro n0 w0 ds ops Q C s L (fuel + 1) bl l := fun u hu u' hu' => by
  have hst := hu.ext hu'
  refine ⟨fun h => hC h _ hst, fun h0 => by rw [hr] at h0; simp at h0, fun k hk => ?_⟩
  rw [hr] at hk
  simp at hk
  rcases hk with rfl | rfl
  · have := opIn_of_WS hi (h1 u' hst)
    rw [← lset_of hbi] at this
    simpa using this
  · have := opIn_of_WS hj (h2 u' hst)
    rw [← lset_of hbj] at this
    simpa using this
theorem AT.done (hr : Region.ready .any ops bl.toArray = []) (hC : bl.toArray.getD s true = false → ∀ u, St n0 w0 L u → C u) (k : QS n0 w0 ds Q .normal L l) : AT P ro n0 w0 ds ops Q C s L 0 bl l := fun u hu u' hu' =>
  ⟨fun h => hC h _ (hu.ext hu'), hr, k u' (hu.ext hu')⟩
theorem QS.then_AT {fuel : Nat} (k : AT P ro n0 w0 ds ops Q C s L fuel bl l) : QS n0 w0 ds (Exit.then (AZ P ro ops (NP Q) C s fuel bl.toArray) (NP Q)) .normal L l := fun u hu => k u hu


theorem CS.drawnTill (s : Nat) {id : Nat} {os : List Oper} {k : Nat} {bl : List Bool} (hm : P.follows .mixedOrders = true) (hk : os.length = k) (hb : List.replicate k false = bl) (h : AT P ro n0 w0 ds os.toArray Q (St n0 w0 L) s L k bl l) :
    CS P ro n0 w0 ds (.region id os.toArray true) Q L l := by subst hb; exact CS.drawnZ s _ hm hk h
end

end Go.Proofs.Ytldagbcceefcdaa
