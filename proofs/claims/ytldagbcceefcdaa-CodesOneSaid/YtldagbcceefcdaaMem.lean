/- The operations on memory: variables of the call's own, slices that are read, slices that grow. No program in sight. -/
import Derived.Test.YtldagbcceefcdaaOps
namespace Go.Proofs.Ytldagbcceefcdaa
set_option linter.unusedVariables false
set_option linter.unusedSimpArgs false
open Go.RowKit

/-- Is the type an aggregate, and of how many cells. -/
def tk (P : Program) (T : TypeId) : Option (Bool × Nat) :=
  match P.underlying T, P.info? T with
  | some (.struct _), some i => some (true, i.size)
  | some (.array _ _), some i => some (true, i.size)
  | some _, some i => some (false, i.size)
  | _, _ => none
/-- The zero value's cells. -/
def zv (P : Program) (T : TypeId) : Option (List Value) := (P.info? T).bind fun i => i.zero.map fun z => z.cells.toList
/-- Where a field lies. -/
def fo (P : Program) (T : TypeId) (f : Nat) : Option Nat :=
  match P.underlying T with
  | some (.struct fs) => (fs[f]?).bind fun x => (P.info? x.type).bind fun i => if i.size = 0 then none else some x.offset
  | _ => none
/-- The element's type, its cells and bytes. -/
def sl (P : Program) (T : TypeId) : Option (TypeId × Nat × Nat) :=
  match P.underlying T with
  | some (.slice e) => (P.info? e).map fun i => (e, i.size, i.bytes)
  | _ => none
/-- An array's length and its element's cells. -/
def arr (P : Program) (T : TypeId) : Option (Nat × Nat) :=
  match P.underlying T with
  | some (.array n e) => (P.info? e).map fun i => (n, i.size)
  | _ => none

section
variable {P : Program} {T : TypeId}
theorem tk_spec {b : Bool} {k : Nat} (h : tk P T = some (b, k)) (w : World) : (isAgg T).run P w = .ok b w ∧ (sizeOf T).run P w = .ok k w := by
  unfold tk at h
  cases hu : P.underlying T with
  | none => rw [hu] at h; simp at h
  | some d =>
    cases hi : P.info? T with
    | none => rw [hu, hi] at h; cases d <;> simp at h
    | some i =>
      rw [hu, hi] at h
      refine ⟨?_, ?_⟩
      · cases d <;> simp at h <;> simp [isAgg, run_underlying hu, h.1]
      · cases d <;> simp at h <;> simp [sizeOf, typeInfo, hi, h.2]
theorem sl_spec {e : TypeId} {k by_ : Nat} (h : sl P T = some (e, k, by_)) : ∃ i, P.underlying T = some (.slice e) ∧ P.info? e = some i ∧ i.size = k ∧ i.bytes = by_ := by
  unfold sl at h
  split at h
  · rename_i e' hu
    cases hi : P.info? e' with
    | none => simp [hi] at h
    | some i =>
      simp [hi] at h
      obtain ⟨rfl, rfl, rfl⟩ := h
      exact ⟨i, hu, hi, rfl, rfl⟩
  · simp at h
theorem arr_spec {n k : Nat} (h : arr P T = some (n, k)) : ∃ e i, P.underlying T = some (.array n e) ∧ P.info? e = some i ∧ i.size = k := by
  unfold arr at h
  split at h
  · rename_i n' e' hu
    cases hi : P.info? e' with
    | none => simp [hi] at h
    | some i =>
      simp [hi] at h
      obtain ⟨rfl, rfl⟩ := h
      exact ⟨e', i, hu, hi, rfl⟩
  · simp at h
end

theorem addr_add (b o n : Nat) : (⟨b, o, none⟩ : Addr).add n = ⟨b, o + n, none⟩ := by
  unfold Addr.add; split <;> simp_all

section
variable {P : Program} {ro : Option Nat} {n0 : Nat} {w0 : World} {ds : List Deferred} {ops : Array Oper} {Q : Exit → Act → World → Prop} {L : List SA}
  {rest : List Oper} {l : List Value} {d : Option Tmp} {ty : TypeId} {ps : String} {af : Array Edge} {g : Option (Nat × Bool)} {C : World → Prop}

/-- An operation that turns the world. -/
theorem WS.world {o : Oper} (hc : calm o.op = true) (hg : o.guard = none)
    (h : ∀ u, St n0 w0 L u → ∃ v u', (execOp (ev l) o).run P u = .ok (.value v) u' ∧ wpListIn (FW ro) 0 P ops Q rest ((Act.mk l.toArray ds).put o.dst v) u') :
    WS P ro n0 w0 ds ops Q L (o :: rest) l := by
  intro u hu
  unfold wpListIn
  rw [if_pos (by simp [Region.wanted, hg])]
  refine ⟨fun _ _ => trivial, ?_⟩
  rw [semAt_calm hc, eval_ev]
  obtain ⟨v, u', hr, hk⟩ := h u hu
  rw [hr]
  exact hk
theorem WS.world_skip {o : Oper} (hc : calm o.op = true) (hg : o.guard = none) (hd : o.dst = none)
    (h : ∀ u, St n0 w0 L u → ∃ u', (execOp (ev l) o).run P u = .ok .skip u' ∧ wpListIn (FW ro) 0 P ops Q rest ⟨l.toArray, ds⟩ u') :
    WS P ro n0 w0 ds ops Q L (o :: rest) l := by
  intro u hu
  unfold wpListIn
  rw [if_pos (by simp [Region.wanted, hg])]
  refine ⟨fun _ _ => trivial, ?_⟩
  rw [semAt_calm hc, eval_ev]
  obtain ⟨u', hr, hk⟩ := h u hu
  rw [hr]
  show wpListIn (FW ro) 0 P ops Q rest ((Act.mk l.toArray ds).put o.dst undef) u'
  rw [hd]
  exact hk

/-! ### Variables -/
theorem WS.box {T : TypeId} {x : Operand} {i : Nat} {v : Value} {c : List Value} (hx : evo l x = some (v)) (hc : v.cells = c.toArray)
    {l' : Nat → List Value} (hl : ∀ b, lset l i (.pointer (some ⟨b, 0, none⟩)) = some (l' b))
    (k : ∀ b, n0 ≤ b → WS P ro n0 w0 ds ops Q (blk b c T :: L) rest (l' b)) :
    WS P ro n0 w0 ds ops Q L (⟨some i, .box T x, ty, ps, af, none⟩ :: rest) l := by
  (replace hx := ev_of hx)
  refine WS.world rfl rfl fun u hu => ?_
  refine ⟨.pointer (some ⟨u.heap.size, 0, none⟩), u.alloc (.cells c.toArray T), ?_, ?_⟩
  · simp [execOp, Instr.box, newVar, newRow, hx, hc]
  · rw [put_some]
    rw [lset_of (hl _)]
    exact k _ hu.size _ (hu.alloc c T)
theorem WS.alloc {T : TypeId} {i : Nat} {c : List Value} (hz : zv P T = some c)
    {l' : Nat → List Value} (hl : ∀ b, lset l i (.pointer (some ⟨b, 0, none⟩)) = some (l' b))
    (k : ∀ b, n0 ≤ b → WS P ro n0 w0 ds ops Q (blk b c T :: L) rest (l' b)) :
    WS P ro n0 w0 ds ops Q L (⟨some i, .alloc T, ty, ps, af, none⟩ :: rest) l := by
  refine WS.world rfl rfl fun u hu => ?_
  refine ⟨.pointer (some ⟨u.heap.size, 0, none⟩), u.alloc (.cells c.toArray T), ?_, ?_⟩
  · unfold zv at hz
    cases hi : P.info? T with
    | none => simp [hi] at hz
    | some inf =>
      cases hz2 : inf.zero with
      | none => simp [hi, hz2] at hz
      | some z =>
        simp [hi, hz2] at hz
        subst hz
        simp [execOp, Instr.alloc, zeroValue, typeInfo, hi, hz2, newVar, newRow]
  · rw [put_some]
    rw [lset_of (hl _)]
    exact k _ hu.size _ (hu.alloc c T)

theorem det_fieldAddr {T : TypeId} {x : Operand} {f b o m : Nat} (hx : evo l x = some (.pointer (some ⟨b, o, none⟩))) (hf : fo P T f = some m) :
    Det P C ⟨d, .fieldAddr T x f, ty, ps, af, g⟩ l (.pointer (some ⟨b, o + m, none⟩)) := fun u _ => by
  (replace hx := ev_of hx)
  unfold fo at hf
  split at hf
  · rename_i fs hu
    cases hfs : fs[f]? with
    | none => simp [hfs] at hf
    | some x =>
      cases hi : P.info? x.type with
      | none => simp [hfs, hi] at hf
      | some i =>
        simp [hfs, hi] at hf
        obtain ⟨h0, rfl⟩ := hf
        simp [execOp, DetUpon, hx, Instr.fieldAt, run_underlying hu, hfs, Instr.sureAddr, fieldPlace, sizeOf, typeInfo, hi, h0, addr_add]
  · simp at hf

theorem det_load {T : TypeId} {x : Operand} {a : Addr} {v : Value} {k : Nat} (hT : tk P T = some (false, k)) (hx : evo l x = some (.pointer (some a))) (hv : ∀ u, C u → u.cell? a = some v) :
    Det P C ⟨d, .load T x, ty, ps, af, g⟩ l v := fun u hu => by
  (replace hx := ev_of hx)
  simp [execOp, DetUpon, hx, Instr.loadAt, Instr.sureAddr, loadVar, (tk_spec hT u).1, hv u hu]
theorem det_loadN {T : TypeId} {x : Operand} {b o : Nat} {cs : List Value} (hT : tk P T = some (true, cs.length)) (hx : evo l x = some (.pointer (some ⟨b, o, none⟩)))
    (hv : ∀ u, C u → ∀ j v, cs[j]? = some v → u.cell? ⟨b, o + j, none⟩ = some v) :
    Det P C ⟨d, .load T x, ty, ps, af, g⟩ l (.agg cs.toArray) := fun u hu => by
  (replace hx := ev_of hx)
  have := run_loadCells_list (P := P) u ⟨b, o, none⟩ cs fun j v h => by rw [addr_add]; exact hv u hu j v h
  simp [execOp, DetUpon, hx, Instr.loadAt, Instr.sureAddr, loadVar, (tk_spec hT u).1, (tk_spec hT u).2, this]

theorem blk_cell {u : World} {b : Nat} {c : List Value} {e : TypeId} (h : u.heap[b]? = some (.cells c.toArray e (0, 0))) (i : Nat) : u.cell? ⟨b, i, none⟩ = c[i]? := by
  rw [cell_of_row u b i _ e (0, 0) h]; simp

/-- A load out of a variable of the call's own: the part's place, the cell. -/
theorem det_loadb {T : TypeId} {x : Operand} {b i : Nat} {c : List Value} {e : TypeId} {v : Value} {k j : Nat} (hx : evo l x = some (.pointer (some ⟨b, i, none⟩))) (hj : L[j]? = some (blk b c e)) (hv : c[i]? = some v) (hT : tk P T = some (false, k)) :
    Det P (St n0 w0 L) ⟨d, .load T x, ty, ps, af, g⟩ l v :=
  det_load hT hx fun u hu => by rw [blk_cell (hu.blk hj).2]; exact hv
theorem det_loadbN {T : TypeId} {x : Operand} {b i : Nat} {c cs : List Value} {e : TypeId} {j : Nat} (hx : evo l x = some (.pointer (some ⟨b, i, none⟩))) (hj : L[j]? = some (blk b c e)) (hv : (c.drop i).take cs.length = cs) (hT : tk P T = some (true, cs.length)) :
    Det P (St n0 w0 L) ⟨d, .load T x, ty, ps, af, g⟩ l (.agg cs.toArray) :=
  det_loadN hT hx fun u hu m v hm => by
    rw [blk_cell (hu.blk hj).2]
    rw [← hv, List.getElem?_take] at hm
    split at hm
    · rw [List.getElem?_drop] at hm; exact hm
    · simp at hm
/-- The whole variable. -/
theorem det_loadb0 {T : TypeId} {x : Operand} {b : Nat} {c : List Value} {e : TypeId} {j : Nat} (hx : evo l x = some (.pointer (some ⟨b, 0, none⟩))) (hj : L[j]? = some (blk b c e)) (hT : tk P T = some (true, c.length)) :
    Det P (St n0 w0 L) ⟨d, .load T x, ty, ps, af, g⟩ l (.agg c.toArray) :=
  det_loadbN hx hj (by simp) hT

theorem lset_eq {α : Type} : ∀ (l : List α) (n : Nat) (v : α), lset l n v = some (l.set n v)
  | [], _, _ => rfl
  | _ :: _, 0, _ => rfl
  | x :: l, n + 1, v => by simp [lset, lset_eq l n v]
theorem WS.store {T : TypeId} {x y : Operand} {b i j : Nat} {k : Bool} {c : List Value} {e : TypeId} {v : Value} (hx : evo l x = some (.pointer (some ⟨b, i, none⟩))) (hj : L[j]? = some (blk b c e)) (hi : i < c.length)
    (hy : evo l y = some (v)) (h1 : v.oneCell' = true) (hT : tk P T = some (k, 1))
    {c' : List Value} (hc' : lset c i v = some c') {L' : List SA} (hL : lset L j (blk b c' e) = some L') (kk : WS P ro n0 w0 ds ops Q L' rest l) :
    WS P ro n0 w0 ds ops Q L (⟨none, .store T x y, ty, ps, af, none⟩ :: rest) l := by
  (replace hx := ev_of hx; replace hy := ev_of hy)
  rw [← lset_of hc'] at hL
  rw [← lset_of hL] at kk
  refine WS.world_skip rfl rfl rfl fun u hu => ⟨u.setCell ⟨b, i, none⟩ v, ?_, kk _ (hu.store hj i v)⟩
  have hb := hu.blk hj
  have hcell : u.cell? ⟨b, i, none⟩ = some c[i] := by rw [blk_cell hb.2]; simp [hi]
  have hfr : u.frozen? ⟨b, i, none⟩ = false := frozen_of_row u b i c.toArray e hb.2
  have hcs : v.cells = #[v] := by cases v <;> simp_all [Value.cells, Value.oneCell']
  simp [execOp, hx, hy, Instr.storeAt, Instr.sureAddr, storeVar, (tk_spec hT u).2, hcs, storeCells, addr_add, run_store P u ⟨b, i, none⟩ v .plain h1, hcell, hfr]
end

end Go.Proofs.Ytldagbcceefcdaa
