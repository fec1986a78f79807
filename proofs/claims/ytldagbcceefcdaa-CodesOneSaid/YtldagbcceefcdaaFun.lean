/- A function's entry and its ways out; calls that hand back new memory; regions that draw their order. No program in sight. -/
import Derived.Test.YtldagbcceefcdaaSli
import Derived.Deep.Quiet
namespace Go.Proofs.Ytldagbcceefcdaa
set_option linter.unusedVariables false
set_option linter.unusedSimpArgs false
open Go.RowKit

/-- The frame at a function's entry. -/
def frame : List Value → Nat → Option (List Value)
  | _, 0 => some []
  | [], n + 1 => match frame [] n with
    | some r => some (undef :: r)
    | none => none
  | v :: vs, n + 1 => match frame vs n with
    | some r => some (v :: r)
    | none => none
theorem frame_nil : ∀ (n : Nat), frame [] n = some (List.replicate n undef)
  | 0 => rfl
  | n + 1 => by simp [frame, frame_nil n, List.replicate_succ]
theorem frame_of : ∀ {vs : List Value} {n : Nat} {l : List Value}, frame vs n = some l → vs.length ≤ n → vs ++ List.replicate (n - vs.length) undef = l
  | [], n, l, h, _ => by rw [frame_nil] at h; simp at h; simp [h]
  | v :: vs, 0, l, h, hn => by simp at hn
  | v :: vs, n + 1, l, h, hn => by
    unfold frame at h
    split at h
    · rename_i r hr
      simp at h
      subst h
      have := frame_of hr (by simpa using hn)
      simp [← this]
    · simp at h

/-- The contract's word: a value, and a part of memory that is new. -/
def RetF (w : World) (v : Value) (A : SA) : Ending → World → Prop := fun e w' => e = .returned v ∧ Below w.heap.size w w' ∧ ∃ T, A.h T w' ∧ ∀ k, T k → w.heap.size ≤ k

section
variable {P : Program} {ro : Option Nat} {n0 : Nat} {w0 : World} {ds : List Deferred} {ops : Array Oper} {Q : Exit → Act → World → Prop} {L : List SA}
  {rest : List Oper} {l : List Value} {d : Option Tmp} {ty : TypeId} {ps : String} {af : Array Edge} {g : Option (Nat × Bool)} {C : World → Prop}

theorem enter {f : FuncId} {fn : Func} {c : Code} {args : List Value} {w : World} {R : Ending → World → Prop} (hf : P.funcs[f]? = some fn) (hb : fn.body = some c)
    (hl : frame args fn.ntmps = some l) (hn : args.length ≤ fn.ntmps) (h : CS P none w.heap.size w [] c (bodyPost P fn R) [] l) : Calls P f args.toArray w R := by
  refine (callsIn_wide (n := 0)).1 (callsIn_of_wp hf hb trivial ?_)
  have := h w St.nil
  rw [← frame_of hl hn] at this
  have e : (args ++ List.replicate (fn.ntmps - args.length) undef).toArray = args.toArray ++ Array.replicate (fn.ntmps - args.toArray.size) undef := by
    apply Array.ext'; simp
  rw [e] at this
  exact this

theorem out0 {fn : Func} {R : Ending → World → Prop} {e : Exit} (he : e = .ret ∨ e = .normal) (hr : fn.results = #[]) (hR : ∀ u, St n0 w0 L u → R (.returned (.tuple #[])) u) : QS n0 w0 [] (bodyPost P fn R) e L l := fun u hu => by
  rcases he with rfl | rfl <;> exact ⟨rfl, _, results_none hr _ _ _, hR u hu⟩
theorem out1 {fn : Func} {R : Ending → World → Prop} {t : Nat} {v : Value} (hr : fn.results = #[.tmp t]) (hv : l[t]? = some v) (hR : ∀ u, St n0 w0 L u → R (.returned v) u) : QS n0 w0 [] (bodyPost P fn R) .ret L l := fun u hu => by
  have h := results_tmp hr l.toArray P u
  simp [hv] at h
  exact ⟨rfl, _, h, hR u hu⟩
theorem out2 {fn : Func} {R : Ending → World → Prop} {t1 t2 : Nat} {v1 v2 : Value} (hr : fn.results = #[.tmp t1, .tmp t2]) (h1 : l[t1]? = some v1) (h2 : l[t2]? = some v2)
    (hR : ∀ u, St n0 w0 L u → R (.returned (.tuple #[v1, v2])) u) : QS n0 w0 [] (bodyPost P fn R) .ret L l := fun u hu => by
  have h := results_tmp2 hr l.toArray P u
  simp [h1, h2] at h
  exact ⟨rfl, _, h, hR u hu⟩
theorem out3 {fn : Func} {R : Ending → World → Prop} {t1 t2 t3 : Nat} {v1 v2 v3 : Value} (hr : fn.results = #[.tmp t1, .tmp t2, .tmp t3]) (h1 : l[t1]? = some v1) (h2 : l[t2]? = some v2) (h3 : l[t3]? = some v3)
    (hR : ∀ u, St n0 w0 L u → R (.returned (.tuple #[v1, v2, v3])) u) : QS n0 w0 [] (bodyPost P fn R) .ret L l := fun u hu => by
  have h := results_tmp3 hr l.toArray P u
  simp [h1, h2, h3] at h
  exact ⟨rfl, _, h, hR u hu⟩

/-- A scalar result. -/
theorem retB {v : Value} : ∀ u, St w0.heap.size w0 L u → RetB w0 v (.returned v) u := fun _ hu => ⟨rfl, hu.below⟩
theorem retBe {v v' : Value} (h : v' = v) : ∀ u, St w0.heap.size w0 L u → RetB w0 v (.returned v') u := fun _ hu => ⟨by rw [h], hu.below⟩
/-- A result whose memory is part j. -/
theorem retF {v : Value} {A : SA} {j : Nat} (hj : L[j]? = some A) : ∀ u, St w0.heap.size w0 L u → RetF w0 v A (.returned v) u := fun _ hu =>
  ⟨rfl, hu.below, let ⟨T, h1, h2⟩ := hu.get hj; ⟨T, h2, h1⟩⟩

/-! ### Calls -/
/-- A call whose contract says: this value, nothing turned. -/
theorem det_callB {f : Operand} {args : List Operand} {ts : Array TypeId} {fn : FuncId} {cap : List Value} {vs : List Value} {v : Value}
    (hf : evo l f = some (.func (.func fn) #[] cap.toArray)) (hv : evs l args = some vs) (he : Ent P fn)
    (hc : ∀ u, St n0 w0 L u → Calls P fn (vs ++ cap).toArray u (RetB u v)) :
    Det P (St n0 w0 L) ⟨d, .call ⟨.value f, args.toArray, ts⟩, ty, ps, af, g⟩ l v :=
  det_call hc hf he hv

theorem WS.callF {β : Type} {f : Operand} {args : List Operand} {ts : Array TypeId} {fn : FuncId} {cap : List Value} {vs : List Value} {v : β → Value} {A : β → SA} {p : β → Prop} {i : Nat} {l' : β → List Value}
    (hf : evo l f = some (.func (.func fn) #[] cap.toArray)) (hv : evs l args = some vs) (he : Ent P fn)
    (hc : ∀ u, St n0 w0 L u → Calls P fn (vs ++ cap).toArray u (fun e u' => ∃ x, p x ∧ RetF u (v x) (A x) e u'))
    (hl : ∀ x, lset l i (v x) = some (l' x)) (k : ∀ x, p x → WS P ro n0 w0 ds ops Q (A x :: L) rest (l' x)) :
    WS P ro n0 w0 ds ops Q L (⟨some i, .call ⟨.value f, args.toArray, ts⟩, ty, ps, af, none⟩ :: rest) l := by
  intro u hu
  unfold wpListIn
  rw [if_pos (by simp [Region.wanted])]
  refine ⟨fun _ _ => trivial, ?_⟩
  rw [semAt_calm rfl, eval_ev]
  have hr : (execOp (ev l) ⟨some i, .call ⟨.value f, args.toArray, ts⟩, ty, ps, af, none⟩).run P u = .ok (.enter fn (vs ++ cap).toArray) u := by
    have h1 : ∀ (args : Array Value) (w : World), Sem.run P (callFunc fn args) w = .ok (.enter fn args) w := he
    replace hf := ev_of hf
    replace hv := evs_of hv
    subst hv
    simp [execOp, hf, resolve, invoke, Deferred.ofValue, h1]
  rw [hr]
  refine ⟨fun h => by simp [FW] at h, callsIn_FW ((hc u hu).mono ?_)⟩
  rintro e u' ⟨x, hp, rfl, hb, T, hA, hT⟩
  show wpListIn (FW ro) 0 P ops Q rest ((Act.mk l.toArray ds).put (some i) (v x)) u'
  rw [put_some, lset_of (hl x)]
  exact k x hp u' (hu.cons hb hA hT)

/-! ### A region that draws its order, whose operations hand back one value each whatever the order -/
theorem det_quiet {o : Oper} {v : Value} (h : Det P (St n0 w0 L) o l v) : ∀ u, St n0 w0 L u → o.quietAt P ⟨l.toArray, ds⟩ (St n0 w0 L) u v := fun u hu => by
  have h1 := h u hu
  unfold Oper.quietAt
  rw [eval_ev]
  generalize (execOp (ev l) o).run P u = r at *
  cases r with
  | halt x w' => simp only [DetUpon] at h1
  | ok n w' =>
    cases n <;> simp only [DetUpon] at h1
    · exact h1
    · obtain ⟨e, hc⟩ := h1
      exact ⟨e, hc.mono fun _ _ ⟨h1, h2⟩ => ⟨h1, hu.ext h2⟩⟩

/-- The rest of such a region. -/
def DS (P : Program) (n0 : Nat) (w0 : World) (ds : List Deferred) (ops : Array Oper) (Q : Exit → Act → World → Prop) (L : List SA) (rest : List Oper) (l : List Value) : Prop :=
  wpQuiet P ops (St n0 w0 L) (fun a' => ∀ u, St n0 w0 L u → Q .normal a' u) rest ⟨l.toArray, ds⟩

theorem DS.det {o : Oper} {d : Nat} {v : Value} (hd : o.dst = some d) (hg : o.guard = none) (h : Det P (St n0 w0 L) o l v)
    {l' : List Value} (hl : lset l d v = some l') (k : DS P n0 w0 ds ops Q L rest l') : DS P n0 w0 ds ops Q L (o :: rest) l := by
  rw [← lset_of hl] at k
  unfold DS wpQuiet
  rw [if_pos (by simp [Region.wanted, hg])]
  refine ⟨v, det_quiet h, ?_⟩
  rw [hd, put_some]
  exact k
theorem DS.guard {o : Oper} {d : Nat} {v : Value} {g : Nat × Bool} {b : Bool} (hd : o.dst = some d) (hg : o.guard = some g)
    (hb : (yielded ops l.toArray g.1 == some g.2) = b) (h : b = true → Det P (St n0 w0 L) o l v)
    {l' : List Value} (hl : lset l d (cond b v undef) = some l') (k : DS P n0 w0 ds ops Q L rest l') : DS P n0 w0 ds ops Q L (o :: rest) l := by
  rw [← lset_of hl] at k
  unfold DS wpQuiet
  have hw : Region.wanted o (yielded ops (Act.mk l.toArray ds).tmps) = b := by
    obtain ⟨j, want⟩ := g
    simp only [Region.wanted, hg]
    exact hb
  rw [hw]
  cases b with
  | true =>
    rw [if_pos rfl]
    refine ⟨v, det_quiet (h rfl), ?_⟩
    rw [hd, put_some]
    exact k
  | false =>
    rw [if_neg (by simp)]
    rw [hd, put_some]
    exact k
theorem DS.done (k : QS n0 w0 ds Q .normal L l) : DS P n0 w0 ds ops Q L [] l := k

theorem quiet_wpIn {C : World → Prop} {o : Oper} {a : Act} {K : Act → Prop} {K' : Act → World → Prop} {Q' : Exit → Act → World → Prop} {w : World} (hc : calm o.op = true) (hw : C w) (h : ∀ a w', C w' → K a → K' a w') (hh : o.quiet P a C K) :
    o.wpIn (FW ro) 0 P a w K' Q' := by
  obtain ⟨v, h1, h2⟩ := hh
  have h3 := h1 w hw
  refine ⟨fun _ _ => trivial, ?_⟩
  rw [semAt_calm hc]
  unfold Oper.quietAt at h3
  generalize (execOp a.eval o).run P w = r at *
  cases r with
  | ok n w' =>
    cases n <;> simp only [Oper.quietUpon] at h3 <;> simp only [Oper.uponIn]
    case value u =>
      obtain ⟨e1, e2⟩ := h3
      rw [e1, e2]
      exact h _ _ hw h2
    case skip =>
      obtain ⟨e1, e2⟩ := h3
      rw [e1, ← e2]
      exact h _ _ hw h2
    case enter f args =>
      obtain ⟨e1, hc⟩ := h3
      rw [e1]
      exact ⟨fun h => by simp [FW] at h, callsIn_FW (hc.mono fun e w'' ⟨he, hw''⟩ => by subst he; exact h _ _ hw'' h2)⟩
  | halt x w' => simp only [Oper.quietUpon] at h3

def allCalm (ops : Array Oper) : Bool := ops.all fun o => calm o.op
theorem allCalm_spec (h : allCalm ops = true) (j : Nat) (o : Oper) (ho : ops[j]? = some o) : calm o.op = true := by
  unfold allCalm at h
  rw [Array.all_eq_true] at h
  obtain ⟨hj, rfl⟩ := Array.getElem?_eq_some_iff.1 ho
  exact h j hj

theorem qOp_wpIn {C : World → Prop} {i : Nat} {a : Act} {K : Act → Prop} {K' : Act → World → Prop} {Q' : Exit → Act → World → Prop} {w : World} (hcalm : allCalm ops = true) (hC : C w) (h : ∀ a w', C w' → K a → K' a w') (hh : qOp P ops C i K a) :
    wpOpIn (FW ro) 0 P ops Q' i K' a w := by
  unfold qOp at hh
  unfold wpOpIn
  split
  · rename_i ho; simp only [ho] at hh; exact h _ _ hC hh
  · rename_i o ho
    simp only [ho] at hh
    split
    · rename_i hw; simp only [hw, if_true] at hh; exact quiet_wpIn (allCalm_spec hcalm _ _ ho) hC h hh
    · rename_i hw; simp only [hw] at hh; exact ⟨fun _ _ => trivial, h _ _ hC hh⟩

theorem wpAnyQ_in {C : World → Prop} {md : Region.Mode} {K : Act → Prop} {Q' : Exit → Act → World → Prop} (hcalm : allCalm ops = true) (hQ : ∀ a w, C w → K a → Q' .normal a w) : ∀ (fuel : Nat) (listed : Array Bool) (a : Act) (w : World), C w →
    wpAnyQ P md ops C K fuel listed a → wpAnyIn (FW ro) 0 P md ops Q' fuel listed a w
  | 0, _, _, _, hw, h => ⟨h.1, hQ _ _ hw h.2⟩
  | fuel + 1, _, _, _, hw, h => ⟨fun h0 => hQ _ _ hw (h.1 h0), fun i hi => qOp_wpIn hcalm hw (fun a' w' hw' => wpAnyQ_in hcalm hQ fuel _ a' w' hw') (h.2 i hi)⟩

theorem St.drew {u : World} (h : St n0 w0 L u) : St n0 w0 L { u with drawn := u.drawn + 1 } := h.ext ⟨rfl, rfl, rfl, Nat.le_refl _, fun _ _ => rfl⟩

theorem CS.draw {id : Nat} {os : List Oper} (hm : P.follows .mixedOrders = true) (hB : Region.lexB .any os.toArray = true) (hcalm : allCalm os.toArray = true) (k : DS P n0 w0 ds os.toArray Q L os l) :
    CS P ro n0 w0 ds (.region id os.toArray true) Q L l := fun u hu => by
  simp only [Region.lexB, Bool.and_eq_true] at hB
  refine wpIn_region_any hm (wpAnyQ_in (C := St n0 w0 L) (K := fun a' => ∀ u, St n0 w0 L u → Q .normal a' u) hcalm (fun _ w' hw' h => h w' hw') _ _ _ _ hu.drew ?_)
  have := wpAnyQ_lex (C := St n0 w0 L) (md := .any) (P := P) hB.1 os 0 (Array.replicate os.toArray.size false) ⟨l.toArray, ds⟩ (by simp) (by simpa using hB.2) k
  simpa using this
end

end Go.Proofs.Ytldagbcceefcdaa
