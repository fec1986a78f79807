/- What each kind of operation hands back. No program in sight. -/
import Derived.Test.YtldagbcceefcdaaStep
namespace Go.Proofs.Ytldagbcceefcdaa
set_option linter.unusedVariables false
set_option linter.unusedSimpArgs false
open Go.RowKit

section
variable {P : Program} {C : World → Prop} {l : List Value} {d : Option Tmp} {ty : TypeId} {ps : String} {af : Array Edge} {g : Option (Nat × Bool)}

theorem det_move {x : Operand} {v : Value} (h : evo l x = some (v)) : Det P C ⟨d, .move x, ty, ps, af, g⟩ l v := fun u _ => by
  (replace h := ev_of h)
  simp [execOp, DetUpon, h]
theorem det_assign {x : Operand} {v : Value} (h : evo l x = some (v)) : Det P C ⟨d, .assign x, ty, ps, af, g⟩ l v := fun u _ => by
  (replace h := ev_of h)
  simp [execOp, DetUpon, h]
theorem det_pick {c x y : Operand} {b : Bool} (hc : evo l c = some (.bool b)) : Det P C ⟨d, .pick c x y, ty, ps, af, g⟩ l (cond b (ev l x) (ev l y)) := fun u _ => by
  (replace hc := ev_of hc)
  cases b <;> simp [execOp, DetUpon, hc, asBool]
/-- 'a && b' -/
theorem det_pick_and {c x y : Operand} {b r : Bool} (hc : evo l c = some (.bool b)) (hx : evo l x = some (cond b (.bool r) undef)) (hy : evo l y = some (.bool false)) :
    Det P C ⟨d, .pick c x y, ty, ps, af, g⟩ l (.bool (b && r)) := fun u hu => by
  (replace hx := ev_of hx; replace hy := ev_of hy)
  have := det_pick (P := P) (C := C) (d := d) (ty := ty) (ps := ps) (af := af) (g := g) (x := x) (y := y) hc u hu
  rw [hx, hy] at this
  cases b <;> exact this
/-- 'a || b' -/
theorem det_pick_or {c x y : Operand} {b r : Bool} (hc : evo l c = some (.bool b)) (hy : evo l y = some (cond (!b) (.bool r) undef)) (hx : evo l x = some (.bool true)) :
    Det P C ⟨d, .pick c x y, ty, ps, af, g⟩ l (.bool (b || r)) := fun u hu => by
  (replace hy := ev_of hy; replace hx := ev_of hx)
  have := det_pick (P := P) (C := C) (d := d) (ty := ty) (ps := ps) (af := af) (g := g) (x := x) (y := y) hc u hu
  rw [hx, hy] at this
  cases b <;> exact this

theorem det_add {T T' : TypeId} {x y : Operand} {a b : Int} (hx : evo l x = some (.int .i64 a)) (hy : evo l y = some (.int .i64 b)) (h : -9223372036854775808 ≤ a + b ∧ a + b ≤ 9223372036854775807) :
    Det P C ⟨d, .binOp .add T x y T', ty, ps, af, g⟩ l (.int .i64 (a + b)) := fun u _ => by
  (replace hx := ev_of hx; replace hy := ev_of hy)
  simp [execOp, DetUpon, hx, hy, eqGuard, binOp, Op.intArith, IntWalk.i64_in _ h]
theorem det_sub {T T' : TypeId} {x y : Operand} {a b : Int} (hx : evo l x = some (.int .i64 a)) (hy : evo l y = some (.int .i64 b)) (h : -9223372036854775808 ≤ a - b ∧ a - b ≤ 9223372036854775807) :
    Det P C ⟨d, .binOp .sub T x y T', ty, ps, af, g⟩ l (.int .i64 (a - b)) := fun u _ => by
  (replace hx := ev_of hx; replace hy := ev_of hy)
  simp [execOp, DetUpon, hx, hy, eqGuard, binOp, Op.intArith, IntWalk.i64_in _ h]
theorem det_mul {T T' : TypeId} {x y : Operand} {a b : Int} (hx : evo l x = some (.int .i64 a)) (hy : evo l y = some (.int .i64 b)) (h : -9223372036854775808 ≤ a * b ∧ a * b ≤ 9223372036854775807) :
    Det P C ⟨d, .binOp .mul T x y T', ty, ps, af, g⟩ l (.int .i64 (a * b)) := fun u _ => by
  (replace hx := ev_of hx; replace hy := ev_of hy)
  simp [execOp, DetUpon, hx, hy, eqGuard, binOp, Op.intArith, IntWalk.i64_in _ h]
/-- The sum as it wraps. -/
theorem det_subw {T T' : TypeId} {x y : Operand} {a b : Int} (hx : evo l x = some (.int .i64 a)) (hy : evo l y = some (.int .i64 b)) :
    Det P C ⟨d, .binOp .sub T x y T', ty, ps, af, g⟩ l (.int .i64 (IntKind.i64.wrap (a - b))) := fun u _ => by
  (replace hx := ev_of hx; replace hy := ev_of hy)
  simp [execOp, DetUpon, hx, hy, eqGuard, binOp, Op.intArith]
theorem det_rem {T T' : TypeId} {x y : Operand} {a b : Int} (hx : evo l x = some (.int .i64 a)) (hy : evo l y = some (.int .i64 b)) (ha : 0 ≤ a) (hb : 0 < b) :
    Det P C ⟨d, .binOp .rem T x y T', ty, ps, af, g⟩ l (.int .i64 (a % b)) := fun u _ => by
  (replace hx := ev_of hx; replace hy := ev_of hy)
  have : ¬ b = 0 := by omega
  simp [execOp, DetUpon, hx, hy, eqGuard, binOp, Op.intDiv, this, Int.tmod_eq_emod_of_nonneg ha]
theorem det_quo {T T' : TypeId} {x y : Operand} {a b : Int} (hx : evo l x = some (.int .i64 a)) (hy : evo l y = some (.int .i64 b)) (ha : 0 ≤ a) (hm : a ≤ 9223372036854775807) (hb : 0 < b) :
    Det P C ⟨d, .binOp .quo T x y T', ty, ps, af, g⟩ l (.int .i64 (a / b)) := fun u _ => by
  (replace hx := ev_of hx; replace hy := ev_of hy)
  have h0 : ¬ b = 0 := by omega
  have h1 : 0 ≤ a / b := Int.ediv_nonneg ha (by omega)
  have h2 : a / b ≤ a := Int.ediv_le_self b ha
  simp [execOp, DetUpon, hx, hy, eqGuard, binOp, Op.intDiv, h0, Int.tdiv_eq_ediv_of_nonneg ha, IntWalk.i64_in (a / b) ⟨by omega, by omega⟩]
theorem det_eq {T T' : TypeId} {x y : Operand} {k : IntKind} {a b : Int} (hx : evo l x = some (.int k a)) (hy : evo l y = some (.int k b)) :
    Det P C ⟨d, .binOp .eql T x y T', ty, ps, af, g⟩ l (.bool (decide (a = b))) := fun u _ => by
  (replace hx := ev_of hx; replace hy := ev_of hy)
  simp [execOp, DetUpon, hx, hy, eqGuard, binOp, Op.intCmp]; rfl
theorem det_ne {T T' : TypeId} {x y : Operand} {k : IntKind} {a b : Int} (hx : evo l x = some (.int k a)) (hy : evo l y = some (.int k b)) :
    Det P C ⟨d, .binOp .neq T x y T', ty, ps, af, g⟩ l (.bool (decide (a ≠ b))) := fun u _ => by
  (replace hx := ev_of hx; replace hy := ev_of hy)
  simp [execOp, DetUpon, hx, hy, eqGuard, binOp, Op.intCmp]; rfl
theorem det_lt {T T' : TypeId} {x y : Operand} {k : IntKind} {a b : Int} (hx : evo l x = some (.int k a)) (hy : evo l y = some (.int k b)) :
    Det P C ⟨d, .binOp .lss T x y T', ty, ps, af, g⟩ l (.bool (decide (a < b))) := fun u _ => by
  (replace hx := ev_of hx; replace hy := ev_of hy)
  simp [execOp, DetUpon, hx, hy, eqGuard, binOp, Op.intCmp]
theorem det_le {T T' : TypeId} {x y : Operand} {k : IntKind} {a b : Int} (hx : evo l x = some (.int k a)) (hy : evo l y = some (.int k b)) :
    Det P C ⟨d, .binOp .leq T x y T', ty, ps, af, g⟩ l (.bool (decide (a ≤ b))) := fun u _ => by
  (replace hx := ev_of hx; replace hy := ev_of hy)
  simp [execOp, DetUpon, hx, hy, eqGuard, binOp, Op.intCmp]
theorem det_gt {T T' : TypeId} {x y : Operand} {k : IntKind} {a b : Int} (hx : evo l x = some (.int k a)) (hy : evo l y = some (.int k b)) :
    Det P C ⟨d, .binOp .gtr T x y T', ty, ps, af, g⟩ l (.bool (decide (b < a))) := fun u _ => by
  (replace hx := ev_of hx; replace hy := ev_of hy)
  simp [execOp, DetUpon, hx, hy, eqGuard, binOp, Op.intCmp]
theorem det_ge {T T' : TypeId} {x y : Operand} {k : IntKind} {a b : Int} (hx : evo l x = some (.int k a)) (hy : evo l y = some (.int k b)) :
    Det P C ⟨d, .binOp .geq T x y T', ty, ps, af, g⟩ l (.bool (decide (b ≤ a))) := fun u _ => by
  (replace hx := ev_of hx; replace hy := ev_of hy)
  simp [execOp, DetUpon, hx, hy, eqGuard, binOp, Op.intCmp]
theorem det_eqb {T T' : TypeId} {x y : Operand} {a b : Bool} (hx : evo l x = some (.bool a)) (hy : evo l y = some (.bool b)) (hT : P.underlying T = some .bool) :
    Det P C ⟨d, .binOp .eql T x y T', ty, ps, af, g⟩ l (.bool (a == b)) := fun u _ => by
  (replace hx := ev_of hx; replace hy := ev_of hy)
  simp [execOp, DetUpon, hx, hy, eqGuard, run_eql_bool _ T a b hT]
theorem det_neb {T T' : TypeId} {x y : Operand} {a b : Bool} (hx : evo l x = some (.bool a)) (hy : evo l y = some (.bool b)) (hT : P.underlying T = some .bool) :
    Det P C ⟨d, .binOp .neq T x y T', ty, ps, af, g⟩ l (.bool (a != b)) := fun u _ => by
  (replace hx := ev_of hx; replace hy := ev_of hy)
  simp [execOp, DetUpon, hx, hy, eqGuard, run_neq_bool _ T a b hT]
  cases a <;> cases b <;> rfl
theorem det_not {T : TypeId} {x : Operand} {a : Bool} (hx : evo l x = some (.bool a)) : Det P C ⟨d, .unOp .not T x, ty, ps, af, g⟩ l (.bool (!a)) := fun u _ => by
  (replace hx := ev_of hx)
  simp [execOp, DetUpon, hx, Op.unary]
theorem det_neg {T : TypeId} {x : Operand} {a : Int} (hx : evo l x = some (.int .i64 a)) (h : -9223372036854775807 ≤ a ∧ a ≤ 9223372036854775807) : Det P C ⟨d, .unOp .neg T x, ty, ps, af, g⟩ l (.int .i64 (-a)) := fun u _ => by
  (replace hx := ev_of hx)
  simp [execOp, DetUpon, hx, Op.unary, Op.intArith, IntWalk.i64_in (-a) ⟨by omega, by omega⟩]
theorem det_extract {x : Operand} {i : Nat} {vs : List Value} {v : Value} (hx : evo l x = some (.tuple vs.toArray)) (hv : vs[i]? = some v) : Det P C ⟨d, .extract x i, ty, ps, af, g⟩ l v := fun u _ => by
  (replace hx := ev_of hx)
  simp [execOp, DetUpon, hx, Instr.extract, hv]
theorem det_makeFunc {fn : Fn} {cap : List Operand} {vs : List Value} (hv : evs l cap = some vs) : Det P C ⟨d, .makeFunc fn #[] cap.toArray, ty, ps, af, g⟩ l (.func fn #[] vs.toArray) := fun u _ => by
  (replace hv := evs_of hv)
  subst hv
  simp [execOp, DetUpon, Instr.makeFunc]
theorem det_len {T : TypeId} {x : Operand} {p : Option Addr} {n c : Nat} {e : TypeId} (hT : P.underlying T = some (.slice e)) (hx : evo l x = some (.slice p n c)) :
    Det P C ⟨d, .call ⟨.builtin .len, #[x], #[T]⟩, ty, ps, af, g⟩ l (.int .i64 n) := fun u _ => by
  (replace hx := ev_of hx)
  simp [execOp, DetUpon, hx, resolve, invoke, builtin, Builtin.len_, run_underlying hT, goInt]
theorem det_convert_int {T T' : TypeId} {x : Operand} {a : Int} {k : IntKind} (hT : P.underlying T = some (.int .i64)) (hT' : P.underlying T' = some (.int .i64)) (hx : evo l x = some (.int k a))
    (h : -9223372036854775808 ≤ a ∧ a ≤ 9223372036854775807) : Det P C ⟨d, .convert T T' x, ty, ps, af, g⟩ l (.int .i64 a) := fun u _ => by
  (replace hx := ev_of hx)
  simp [execOp, DetUpon, hx, convert, run_underlying hT, run_underlying hT', Conv.intToInt, IntWalk.i64_in a h]
theorem det_min {x y : Operand} {Ts : Array TypeId} {a b : Int} (hx : evo l x = some (.int .i64 a)) (hy : evo l y = some (.int .i64 b)) :
    Det P C ⟨d, .call ⟨.builtin .min, #[x, y], Ts⟩, ty, ps, af, g⟩ l (.int .i64 (min a b)) := fun u _ => by
  (replace hx := ev_of hx; replace hy := ev_of hy)
  have : (if b < a then b else a) = min a b := by split <;> omega
  simp [execOp, DetUpon, hx, hy, resolve, invoke, builtin, Builtin.min_, Builtin.min2, this]
theorem det_max {x y : Operand} {Ts : Array TypeId} {a b : Int} (hx : evo l x = some (.int .i64 a)) (hy : evo l y = some (.int .i64 b)) :
    Det P C ⟨d, .call ⟨.builtin .max, #[x, y], Ts⟩, ty, ps, af, g⟩ l (.int .i64 (max a b)) := fun u _ => by
  (replace hx := ev_of hx; replace hy := ev_of hy)
  have : (if a < b then b else a) = max a b := by split <;> omega
  simp [execOp, DetUpon, hx, hy, resolve, invoke, builtin, Builtin.max_, Builtin.max2, this]
theorem det_nilCheck {x : Operand} {a : Addr} (hx : evo l x = some (.pointer (some a))) : Det P C ⟨d, .nilCheck x, ty, ps, af, g⟩ l (.pointer (some a)) := fun u _ => by
  (replace hx := ev_of hx)
  simp [execOp, DetUpon, hx]

/-! ### Calls -/
theorem det_call {f : Operand} {args : List Operand} {ts : Array TypeId} {fn : FuncId} {cap : List Value} {vs : List Value} {v : Value}
    (hc : ∀ u, C u → Calls P fn (vs ++ cap).toArray u (RetB u v))
    (hf : evo l f = some (.func (.func fn) #[] cap.toArray)) (he : Ent P fn) (hv : evs l args = some vs) :
    Det P C ⟨d, .call ⟨.value f, args.toArray, ts⟩, ty, ps, af, g⟩ l v := fun u hu => by
  (replace hf := ev_of hf; replace hv := evs_of hv)
  subst hv
  have h1 : ∀ (args : Array Value) (w : World), Sem.run P (callFunc fn args) w = .ok (.enter fn args) w := he
  simp [execOp, DetUpon, hf, resolve, invoke, Deferred.ofValue, h1]
  have := hc u hu
  simpa using this
end

end Go.Proofs.Ytldagbcceefcdaa
